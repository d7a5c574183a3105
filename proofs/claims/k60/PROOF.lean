import PyProof.Rows.All
import HandS.ForMost
import HandS.Exc
import HandS.ExcInit
import HandS.Defaults
import HandS.Gcd
import HandS.Wide
import HandS.Deep
import HandS.Flow
import HandS.HeadHook2
import HandS.ExcOwn
import HandS.TupAny
import HandS.IsInst
import HandS.Style
import KE.GoesEnum
import HandS.Iter
import HandS.Zip
import HandS.Comp
import HandS.TupMul
import HandS.Text
import HandS.Conv
import PyProof.FactsAll.list
import PyProof.FactsAll.str
import HandS.Dict
import HandS.DictTup
import HandS.TupLen
import HandS.Codes
import KE.KStateDown
import HandS.Head0
import HandS.Head1
import HandS.Head2
import HandS.Head3
import HandS.HeadEnd
import HandS.HeadHook1
import HandS.ExcField
import HandS.CallLocal
import HandS.FStr
import PySem.Challenge.RW_wholeplays_k60_whole_texts_of_numbers_sh
set_option linter.all false
set_option autoImplicit false
/-! W0: data, expressions, statements of a small language and what they compute. Plain Lean. -/
namespace Wp

/-- a text, by its signs -/
abbrev Tx := List Nat

/-- data -/
inductive D where
  | non | bl (b : Bool) | int (i : Int) | str (s : Tx)
  | tup (xs : List D) | lst (xs : List D)
  | fn (x : String)
  | exc (c : String) (v : D)
  | frz (xs : List D)
  deriving Inhabited

/-- an argument, what stands in a slot: data, a cell, or a tuple that was made here (a dict may have it for a key) -/
inductive A where
  | v (d : D) | c (n : Nat) | t (d : D)
  deriving Inhabited
/-- how a value is promised: a value, a new list, a tuple made here -/
inductive Md where
  | v | n | t

/-- what a cell holds -/
inductive C where
  | dead
  | lst (xs : List D)
  | dK (kvs : List (D × D))
  | dT (kvs : List (D × D))
  deriving Inhabited

structure Cell where
  fz : Bool
  c : C
  deriving Inhabited

abbrev Mu := List Cell
abbrev Env := List (Option A)

inductive Res (α : Type) where
  | ok (a : α) (μ : Mu)
  | exc (c : String) (d : D) (μ : Mu)
  | no

abbrev Fn := List A → Mu → Res D
abbrev Pr := List D → Option D

def SL : Nat := 16777216

/-- what an argument reads as -/
def dr (μ : Mu) : A → Option D
  | .v d => some d
  | .t d => some d
  | .c n => match μ[n]? with
    | some ⟨_, .lst xs⟩ => some (.lst xs)
    | _ => none
def drs (μ : Mu) : List A → Option (List D)
  | [] => some []
  | a :: as => match dr μ a, drs μ as with
    | some d, some ds => some (d :: ds)
    | _, _ => none
/-- arguments that are data -/
def vals : List A → Option (List D)
  | [] => some []
  | .v d :: as => match vals as with
    | some ds => some (d :: ds)
    | none => none
  | .t d :: as => match vals as with
    | some ds => some (d :: ds)
    | none => none
  | .c _ :: _ => none

def tru : D → Option Bool
  | .non => some false
  | .bl b => some b
  | .int i => some (i != 0)
  | .str s => if s.length ≤ SL then some (!s.isEmpty) else none
  | .tup xs => some (!xs.isEmpty)
  | .lst xs => some (!xs.isEmpty)
  | .fn _ => none
  | .exc _ _ => none
  | .frz _ => none

inductive Ty where
  | int | bool | str | tuple | list | dict
  deriving DecidableEq

/-- the operations on values -/
inductive P where
  | iadd | isub | add | sub | mul | fdiv | mod | pow | neg
  | lt | le | gt | ge | eq | ne | isN | notN | isB | notB | inn | notin
  | not | len | idx | slLo | slHi | slLH | asI | abs | max | min | int | intS | str | tuple | list | lrange | sum | any | all | gcd
  | isinst (ts : List Ty)
  | lenset | index | split | partition | join | startswith | endswith
  deriving DecidableEq

/-- the operations that change a cell, that look at one -/
inductive Mt where
  | append | extend | pop
  deriving DecidableEq
inductive Lk where
  | get | len | get1 | get2
  deriving DecidableEq

inductive T where
  | n (i : Nat)
  | t (ts : List T)

mutual
inductive E where
  | var (i : Nat)
  | k (d : D)
  | g (x : String) (d : D)
  | prim (p : P) (es : List E)
  | tup (es : List E)
  | lst (es : List E)
  | call (f : String) (F : Fn) (es : List E)
  | callK (f : String) (F : Fn) (es : List E) (ks : List String) (perm : List Nat) (ws : List E)
  | callv (tbl : List (String × Fn)) (f : E) (es : List E)
  | meth (p : P) (x : E) (es : List E)
  | mut (p : Mt) (x : E) (es : List E)
  | look (p : Lk) (x : E) (es : List E)
  | inD (p : Bool) (k x : E)
  | fz (e : E)
  | and (a b : E)
  | or (a b : E)
  | ife (c a b : E)
  | chain (p q : P) (a b c : E)
  | lc (g : I) (t : T) (cs : List E) (e : E) (own : List Nat)
inductive I where
  | of (e : E)
  | rng (es : List E)
  | enum (e : E)
  | zip (es : List E)
end

/-- a part of a parallel assignment: a value, a tuple made here, a new list, a new dict (cell j) -/
inductive Pi where
  | v (e : E)
  | t (e : E)
  | n (j : Nat) (e : E)
  | dK (j : Nat)
  | dT (j : Nat)

inductive S where
  | set (t : T) (e : E)
  | setT (i : Nat) (e : E)
  | stuck
  | par (is : List Nat) (es : List Pi)
  | new (i j : Nat) (e : E)
  | newD (i j : Nat) (c : C)
  | updL (x k v : E)
  | updD (x k v : E)
  | aug (i : Nat) (p : P) (e : E)
  | augL (x k : E) (p : P) (e : E)
  | augD (x k : E) (p : P) (e : E)
  | xp (e : E)
  | ife (c : E) (a b : List S)
  | for (t : T) (g : I) (b : List S)
  | whl (n : Nat) (c : E) (b : List S)
  | ret (e : E)
  | retC (i : Nat)
  | brk | cnt | pas
  | rai (c : String) (e : E)
  | tryV (b : List S) (c : String) (i k : Nat) (f : D → D)
  | swapL (x k l a b : E)

def Res.bind {α β : Type} : Res α → (α → Mu → Res β) → Res β
  | .ok a μ, k => k a μ
  | .exc c d μ, _ => .exc c d μ
  | .no, _ => .no

def optR {α : Type} (o : Option α) (μ : Mu) : Res α := match o with
  | some a => .ok a μ
  | none => .no

/- targets -/
mutual
def asg : T → D → Env → Option Env
  | .n i, d, ρ => if i < ρ.length then some (ρ.set i (some (.v d))) else none
  | .t ts, .tup xs, ρ => asgs ts xs ρ
  | .t ts, _, ρ => none
def asgs : List T → List D → Env → Option Env
  | [], [], ρ => some ρ
  | t :: ts, d :: ds, ρ => match asg t d ρ with
    | some ρ' => asgs ts ds ρ'
    | none => none
  | _, _, _ => none
end

def wipeE (ρ : Env) : List Nat → Env
  | [] => ρ
  | i :: is => (wipeE ρ is).set i none

def rngL (lo : Int) : Nat → List D
  | 0 => []
  | n + 1 => .int lo :: rngL (lo + 1) n
def rngOf : List D → Option (List D)
  | [.int n] => if -(2 ^ 62) ≤ n ∧ n < 2 ^ 62 then some (rngL 0 n.toNat) else none
  | [.int a, .int b] => if -(2 ^ 62) ≤ a ∧ a < 2 ^ 62 ∧ -(2 ^ 62) ≤ b ∧ b < 2 ^ 62 then some (rngL a (b - a).toNat) else none
  | _ => none
def itOf : D → Option (List D)
  | .lst xs => some xs
  | .tup xs => some xs
  | .str s => some (s.map fun c => .str [c])
  | _ => none
def enumL (i : Nat) : List D → List D
  | [] => []
  | x :: xs => .tup [.int i, x] :: enumL (i + 1) xs
def zipL : List D → List D → List D
  | x :: xs, y :: ys => .tup [x, y] :: zipL xs ys
  | _, _ => []

/-- x[k] = v of a cell -/
def ixN (n : Nat) (i : Int) : Option Nat := if 0 ≤ i then (if i < n then some i.toNat else none) else if -(n : Int) ≤ i then some (i + n).toNat else none
def isKeyK : D → Bool
  | .int _ => true
  | .str _ => true
  | _ => false
def isKeyT : D → Bool
  | .tup xs => xs.all isKeyK
  | _ => false

mutual
def D.eqv : D → D → Bool
  | .non, .non => true
  | .bl a, .bl b => a == b
  | .bl a, .int j => (if a then 1 else 0) == j
  | .int i, .bl b => i == (if b then 1 else 0)
  | .int i, .int j => i == j
  | .str s, .str t => s == t
  | .tup xs, .tup ys => D.eqvs xs ys
  | .lst xs, .lst ys => D.eqvs xs ys
  | _, _ => false
def D.eqvs : List D → List D → Bool
  | [], [] => true
  | x :: xs, y :: ys => D.eqv x y && D.eqvs xs ys
  | _, _ => false
end
/- of data alone, at most n deep -/
mutual
def D.okN : Nat → D → Bool
  | _, .non => true
  | _, .bl _ => true
  | _, .int _ => true
  | _, .str s => s.all (· < 1114112)
  | 0, .tup _ => false
  | 0, .lst _ => false
  | n + 1, .tup xs => D.okNs n xs
  | n + 1, .lst xs => D.okNs n xs
  | _, .fn _ => false
  | _, .exc _ _ => false
  | _, .frz _ => false
def D.okNs : Nat → List D → Bool
  | _, [] => true
  | n, x :: xs => D.okN n x && D.okNs n xs
end

def dLook (k : D) : List (D × D) → Option D
  | [] => none
  | (x, y) :: r => if D.eqv x k then some y else dLook k r
def dPut (k v : D) (l : List (D × D)) : List (D × D) := if l.any (fun p => D.eqv p.1 k) then l.map (fun p => if D.eqv p.1 k then (p.1, v) else p) else l ++ [(k, v)]
def updL (c : C) (k v : D) : Option C := match c, k with
  | .lst xs, .int i => (ixN xs.length i).map fun j => .lst (xs.set j v)
  | _, _ => none
/-- a key for this dict -/
def keyFor : C → A → Option D
  | .dK _, .v k => if isKeyK k then some k else none
  | .dT _, .t k => if isKeyT k then some k else none
  | _, _ => none
def updD (c : C) (k : A) (v : D) : Option C := (keyFor c k).bind fun k => match c with
  | .dK kvs => if kvs.length < SL then some (.dK (dPut k v kvs)) else none
  | .dT kvs => if kvs.length < SL then some (.dT (dPut k v kvs)) else none
  | _ => none
def lookL (c : C) (k : D) : Option D := match c, k with
  | .lst xs, .int i => (ixN xs.length i).bind fun j => xs[j]?
  | _, _ => none
/-- what the dict holds at k -/
def dictAt (c : C) (k : A) : Option (Option D) := (keyFor c k).map fun k => match c with
  | .dK kvs => dLook k kvs
  | .dT kvs => dLook k kvs
  | _ => none
def lookD (c : C) (k : A) : Option D := (dictAt c k).bind id

def mulOk (a b : Int) : Bool := decide (a.natAbs.log2 + b.natAbs.log2 < 1000000)
def divOk (b : Int) : Bool := decide (b ≠ 0) && decide (b.natAbs.log2 < 9000)
/-- a part of a slice -/
def sIx (n d : Nat) : Option Int → Nat
  | none => d
  | some v => if v < 0 then (v + n).toNat else min v.toNat n
def cut {α : Type} (xs : List α) (lo hi : Option Int) : List α := (xs.drop (sIx xs.length 0 lo)).take (sIx xs.length xs.length hi - sIx xs.length 0 lo)
def atI {α : Type} (xs : List α) (i : Int) : Option α := (ixN xs.length i).bind fun j => xs[j]?
def rep {α : Type} (xs : List α) (n : Nat) : List α := (List.replicate n xs).flatten
def ltL : List Nat → List Nat → Bool
  | [], [] => false
  | [], _ :: _ => true
  | _ :: _, [] => false
  | x :: xs, y :: ys => if x = y then ltL xs ys else decide (x < y)
def ltI : List Int → List Int → Bool
  | [], [] => false
  | [], _ :: _ => true
  | _ :: _, [] => false
  | x :: xs, y :: ys => if x = y then ltI xs ys else decide (x < y)
def intsOf : List D → Option (List Int)
  | [] => some []
  | .int i :: r => (intsOf r).map (i :: ·)
  | _ :: _ => none
def blsOf : List D → Option (List Bool)
  | [] => some []
  | .bl b :: r => (blsOf r).map (b :: ·)
  | _ :: _ => none
def strsOf : List D → Option (List Tx)
  | [] => some []
  | .str b :: r => (strsOf r).map (b :: ·)
  | _ :: _ => none
def digit (c : Nat) : Bool := decide (48 ≤ c) && decide (c ≤ 57)
def digVal (s : Tx) : Nat := s.foldl (fun a c => a * 10 + (c - 48)) 0
def numTx (n : Nat) : Tx := (Nat.toDigits 10 n).map Char.toNat
def intTx (i : Int) : Tx := if i < 0 then 45 :: numTx i.natAbs else numTx i.natAbs
/-- does S stand at the begin of l -/
def pre (S l : Tx) : Bool := l.take S.length == S
def spl (S : Tx) : Nat → Tx → Tx → List Tx
  | _, acc, [] => [acc]
  | k + 1, acc, _ :: r => spl S k acc r
  | 0, acc, c :: r => if pre S (c :: r) then acc :: spl S (S.length - 1) [] r else spl S 0 (acc ++ [c]) r
def par (S : Tx) : Tx → Tx → Option (Tx × Tx)
  | _, [] => none
  | acc, c :: r => if pre S (c :: r) then some (acc, (c :: r).drop S.length) else par S (acc ++ [c]) r
def joinL (S : Tx) : List Tx → Tx
  | [] => []
  | [x] => x
  | x :: y :: r => x ++ S ++ joinL S (y :: r)
def low (s : Tx) : Bool := s.all (· < 256)
def isIn (S : Tx) : Tx → Bool
  | [] => S.isEmpty
  | c :: r => pre S (c :: r) || isIn S r
def findD (d : D) : Nat → List D → Option Nat
  | _, [] => none
  | i, x :: r => if D.eqv x d then some i else findD d (i + 1) r
def isTy : D → Ty → Bool
  | .bl _, .bool => true
  | .bl _, .int => true
  | .int _, .int => true
  | .str _, .str => true
  | .tup _, .tuple => true
  | .lst _, .list => true
  | _, _ => false
def okD (d : D) : Bool := D.okN 60 d

def cutD (a : D) (lo hi : Option Int) : Option D := match a with
  | .lst a => some (.lst (cut a lo hi))
  | .tup a => some (.tup (cut a lo hi))
  | .str a => if a.length ≤ SL then some (.str (cut a lo hi)) else none
  | _ => none
/-- a in b -/
def inOf (a : D) : D → Option Bool
  | .lst l => if okD a && D.okNs 59 l then some (l.any fun z => D.eqv z a) else none
  | .tup l => if okD a && D.okNs 59 l then some (l.any fun z => D.eqv z a) else none
  | .str t => (match a with
    | .str [c] => some (t.contains c)
    | _ => none)
  | _ => none
def P.f1 : P → D → Option D
  | .neg, .int a => some (.int (-a))
  | .isN, .non => some (.bl true)
  | .isN, .bl _ => some (.bl false)
  | .isN, .int _ => some (.bl false)
  | .isN, .str _ => some (.bl false)
  | .isN, .tup _ => some (.bl false)
  | .isN, .lst _ => some (.bl false)
  | .notN, .non => some (.bl false)
  | .notN, .bl _ => some (.bl true)
  | .notN, .int _ => some (.bl true)
  | .notN, .str _ => some (.bl true)
  | .notN, .tup _ => some (.bl true)
  | .notN, .lst _ => some (.bl true)
  | .not, a => (tru a).map fun b => .bl (!b)
  | .len, .str a => if a.length ≤ SL then some (.int a.length) else none
  | .len, .tup a => some (.int a.length)
  | .len, .lst a => some (.int a.length)
  | .asI, .int a => some (.int a)
  | .abs, .int a => some (.int (if a < 0 then -a else a))
  | .int, .int a => some (.int a)
  | .int, .bl a => some (.int (if a then 1 else 0))
  | .intS, .str s => if s.all digit && !s.isEmpty && decide (s.length ≤ 640) then some (.int (digVal s)) else none
  | .str, .int a => if a.natAbs.log2 < 1920 then some (.str (intTx a)) else none
  | .tuple, .lst a => some (.tup a)
  | .tuple, .tup a => some (.tup a)
  | .list, .lst a => some (.lst a)
  | .list, .tup a => some (.lst a)
  | .list, .frz a => some (.lst a)
  | .lenset, .lst a => (intsOf a).map fun is => .int (is.eraseDups.length : Nat)
  | .sum, .lst a => (intsOf a).map fun is => .int is.sum
  | .any, .lst a => (blsOf a).map fun bs => .bl (bs.any id)
  | .all, .lst a => (blsOf a).map fun bs => .bl (bs.all id)
  | .isinst ts, .fn _ => none
  | .isinst ts, .exc _ _ => none
  | .isinst ts, .frz _ => none
  | .isinst ts, a => some (.bl (ts.any (isTy a)))
  | .lrange, a => (rngOf [a]).bind fun xs => if xs.length ≤ SL then some (.lst xs) else none
  | _, _ => none
def P.f2 : P → D → D → Option D
  | .iadd, .int a, .int b => some (.int (a + b))
  | .isub, .int a, .int b => some (.int (a - b))
  | .add, .int a, .int b => some (.int (a + b))
  | .add, .str a, .str b => if a.length + b.length ≤ SL then some (.str (a ++ b)) else none
  | .add, .tup a, .tup b => if a.length + b.length ≤ SL then some (.tup (a ++ b)) else none
  | .add, .lst a, .lst b => if a.length + b.length ≤ SL then some (.lst (a ++ b)) else none
  | .sub, .int a, .int b => some (.int (a - b))
  | .mul, .int a, .int b => if mulOk a b then some (.int (a * b)) else none
  | .mul, .lst a, .int b => if (-(2 ^ 63) ≤ b ∧ b < 2 ^ 63) ∧ a.length * b.toNat ≤ SL then some (.lst (rep a b.toNat)) else none
  | .mul, .tup a, .int b => if a.isEmpty = false ∧ 1 ≤ b ∧ b ≤ 1000 ∧ a.length ≤ 1000 then some (.tup (rep a b.toNat)) else none
  | .fdiv, .int a, .int b => if divOk b then some (.int (a.fdiv b)) else none
  | .mod, .int a, .int b => if b ≠ 0 then some (.int (a.fmod b)) else none
  | .pow, .int a, .int b => if (0 ≤ b ∧ b ≤ 1000000) ∧ a.natAbs < 2 ^ 64 then some (.int (a ^ b.toNat)) else none
  | .lt, .int a, .int b => some (.bl (decide (a < b)))
  | .le, .int a, .int b => some (.bl (decide (a ≤ b)))
  | .gt, .int a, .int b => some (.bl (decide (b < a)))
  | .ge, .int a, .int b => some (.bl (decide (b ≤ a)))
  | .eq, .str a, .str b => some (.bl (a == b))
  | .eq, a, b => if okD a && okD b then some (.bl (D.eqv a b)) else none
  | .ne, .str a, .str b => some (.bl (!(a == b)))
  | .ne, a, b => if okD a && okD b then some (.bl (!D.eqv a b)) else none
  | .isB, .bl a, .bl b => some (.bl (decide (a = b)))
  | .notB, .bl a, .bl b => some (.bl (!decide (a = b)))
  | .inn, a, b => (inOf a b).map .bl
  | .notin, a, b => (inOf a b).map fun k => .bl (!k)
  | .idx, .lst a, .int i => atI a i
  | .idx, .tup a, .int i => atI a i
  | .idx, .str a, .int i => if a.length ≤ SL then (atI a i).map fun c => .str [c] else none
  | .slLo, a, .int l => cutD a (some l) none
  | .slHi, a, .int h => cutD a none (some h)
  | .max, .int a, .int b => some (.int (if b > a then b else a))
  | .min, .int a, .int b => some (.int (if b < a then b else a))
  | .gcd, .int a, .int b => some (.int (Nat.gcd a.natAbs b.natAbs : Nat))
  | .index, .lst b, a => if okD a && D.okNs 59 b then (findD a 0 b).map (fun j : Nat => D.int (j : Int)) else none
  | .split, .str a, .str b => if !b.isEmpty && low b && decide (a.length + 2 ≤ SL) then some (.lst ((spl b 0 [] a).map .str)) else none
  | .partition, .str a, .str b => if !b.isEmpty && low b && decide (a.length ≤ SL) then (match par b [] a with
    | some (x, y) => some (.tup [.str x, .str b, .str y])
    | none => some (.tup [.str a, .str [], .str []])) else none
  | .join, .str a, .lst b => (strsOf b).bind fun ys => if (ys.map (·.length)).sum + ys.length * a.length ≤ SL then some (.str (joinL a ys)) else none
  | .startswith, .str a, .str b => some (.bl (pre b a))
  | .endswith, .str a, .str b => some (.bl (b.length ≤ a.length && a.drop (a.length - b.length) == b))
  | .lrange, a, b => (rngOf [a, b]).bind fun xs => if xs.length ≤ SL then some (.lst xs) else none
  | _, _, _ => none
def P.f3 : P → D → D → D → Option D
  | .slLH, a, .int l, .int h => cutD a (some l) (some h)
  | _, _, _, _ => none
def P.f (p : P) : List D → Option D
  | [a] => p.f1 a
  | [a, b] => p.f2 a b
  | [a, b, c] => p.f3 a b c
  | _ => none

/-- is what it gives a new list -/
def P.new : P → Bool
  | .add => true
  | .mul => true
  | .slLo => true
  | .slHi => true
  | .slLH => true
  | .list => true
  | .lrange => true
  | .split => true
  | _ => false

def Mt.f : Mt → C → List D → Option (C × D)
  | .append, .lst xs, [d] => if xs.length < SL then some (.lst (xs ++ [d]), .non) else none
  | .extend, .lst xs, [.lst ys] => if xs.length + ys.length ≤ SL then some (.lst (xs ++ ys), .non) else none
  | .pop, .lst xs, [] => match xs[xs.length - 1]? with
    | some d => some (.lst xs.dropLast, d)
    | none => none
  | _, _, _ => none
def Lk.f : Lk → C → List A → Option D
  | .get, c, [k] => lookD c k
  | .get1, c, [k] => (dictAt c k).map fun o => o.getD .non
  | .get2, c, [k, .v x] => (dictAt c k).map fun o => o.getD x
  | .len, .dK kvs, [] => some (.int kvs.length)
  | .len, .dT kvs, [] => some (.int kvs.length)
  | _, _, _ => none

/-- the turns of a list comprehension; cell n holds the new list -/
def lcGo (tg : D → Env → Option Env) (test : Env → Mu → Res Bool) (el : Env → Mu → Res D) (n : Nat) (ρ : Env) : List D → Mu → Res Unit
  | [], μ => .ok () μ
  | x :: xs, μ => match tg x ρ with
    | none => .no
    | some ρ' => (test ρ' μ).bind fun b μ1 => if b then (el ρ' μ1).bind fun d μ2 => match μ2[n]? with
        | some ⟨false, .lst acc⟩ => if acc.length < SL then lcGo tg test el n ρ xs (μ2.set n ⟨false, .lst (acc ++ [d])⟩) else .no
        | _ => .no
      else lcGo tg test el n ρ xs μ1
/-- the new list, at the end -/
def lcEnd (n : Nat) (μ : Mu) : Res A := match μ[n]? with
  | some ⟨false, .lst ds⟩ => .ok (.v (.lst ds)) (μ.take n)
  | _ => .no

def noExc {α : Type} : Res α → Res α
  | .ok a μ => .ok a μ
  | _ => .no

def permute (perm : List Nat) (as : List A) : Option (List A) := perm.mapM fun i => as[i]?

def toV : A → Mu → Res D
  | .v d, μ => .ok d μ
  | .t d, μ => .ok d μ
  | .c _, _ => .no

/-- may p be a method of d -/
def recv : P → Option D → Bool
  | .index, some (.lst _) => true
  | .split, some (.str _) => true
  | .partition, some (.str _) => true
  | .join, some (.str _) => true
  | .startswith, some (.str _) => true
  | .endswith, some (.str _) => true
  | _, _ => false
def isL (μ : Mu) (n : Nat) : Bool := match μ[n]? with
  | some ⟨_, .lst _⟩ => true
  | _ => false
def isD (μ : Mu) (n : Nat) : Bool := match μ[n]? with
  | some ⟨_, .dK _⟩ => true
  | some ⟨_, .dT _⟩ => true
  | _ => false
mutual
def ev : E → Env → Mu → Res A
  | .var i, ρ, μ => match ρ[i]? with
    | some (some a) => .ok a μ
    | _ => .no
  | .k d, _, μ => .ok (.v d) μ
  | .g _ d, _, μ => .ok (.v d) μ
  | .prim p es, ρ, μ => (evs es ρ μ).bind fun as μ1 => (optR ((drs μ1 as).bind p.f) μ1).bind fun d μ2 => .ok (.v d) μ2
  | .tup es, ρ, μ => (evs es ρ μ).bind fun as μ1 => (optR (vals as) μ1).bind fun ds μ2 => .ok (.v (.tup ds)) μ2
  | .lst es, ρ, μ => (evs es ρ μ).bind fun as μ1 => (optR (vals as) μ1).bind fun ds μ2 => .ok (.v (.lst ds)) μ2
  | .call _ F es, ρ, μ => (evs es ρ μ).bind fun as μ1 => (F as μ1).bind fun d μ2 => .ok (.v d) μ2
  | .callK _ F es _ perm ws, ρ, μ => (evs es ρ μ).bind fun as μ1 => (evs ws ρ μ1).bind fun bs μ2 => (optR (permute perm (as ++ bs)) μ2).bind fun as' μ3 => (F as' μ3).bind fun d μ4 => .ok (.v d) μ4
  | .callv tbl f es, ρ, μ => (ev f ρ μ).bind fun fv μ0 => match fv with
    | .v (.fn x) => match tbl.lookup x with
      | some g => (evs es ρ μ0).bind fun as μ1 => (g as μ1).bind fun d μ2 => .ok (.v d) μ2
      | none => .no
    | _ => .no
  | .meth p x es, ρ, μ => (ev x ρ μ).bind fun xa μ0 => if recv p (dr μ0 xa) then (evs es ρ μ0).bind fun as μ1 => (optR ((drs μ1 (xa :: as)).bind p.f) μ1).bind fun d μ2 => .ok (.v d) μ2 else .no
  | .mut p x es, ρ, μ => (ev x ρ μ).bind fun xa μ0 => match xa with
    | .c n => if isL μ0 n then (evs es ρ μ0).bind fun as μ1 => match μ1[n]?, vals as with
      | some ⟨false, c⟩, some ds => match p.f c ds with
        | some (c', d) => .ok (.v d) (μ1.set n ⟨false, c'⟩)
        | none => .no
      | _, _ => .no
      else .no
    | _ => .no
  | .look p x es, ρ, μ => (ev x ρ μ).bind fun xa μ0 => match xa with
    | .c n => if isD μ0 n then (evs es ρ μ0).bind fun as μ1 => match μ1[n]? with
      | some ⟨_, c⟩ => match p.f c as with
        | some d => .ok (.v d) μ1
        | none => .no
      | _ => .no
      else .no
    | _ => .no
  | .inD p k x, ρ, μ => (ev k ρ μ).bind fun ka μ1 => (ev x ρ μ1).bind fun xa μ2 => match xa with
    | .c n => match μ2[n]? with
      | some ⟨_, c⟩ => match dictAt c ka with
        | some o => .ok (.v (.bl (if p then o.isSome else !o.isSome))) μ2
        | none => .no
      | none => .no
    | _ => .no
  | .fz e, ρ, μ => (ev e ρ μ).bind fun a μ1 => match a with
    | .v d => .ok (.v d) μ1
    | .t d => .ok (.v d) μ1
    | .c n => match μ1[n]? with
      | some ⟨_, .lst xs⟩ => .ok (.v (.lst xs)) (μ1.set n ⟨true, .lst xs⟩)
      | _ => .no
  | .and a b, ρ, μ => (ev a ρ μ).bind fun x μ1 => match (dr μ1 x).bind tru with
    | some true => ev b ρ μ1
    | some false => .ok x μ1
    | none => .no
  | .or a b, ρ, μ => (ev a ρ μ).bind fun x μ1 => match (dr μ1 x).bind tru with
    | some true => .ok x μ1
    | some false => ev b ρ μ1
    | none => .no
  | .ife c a b, ρ, μ => (ev c ρ μ).bind fun x μ1 => match (dr μ1 x).bind tru with
    | some true => ev a ρ μ1
    | some false => ev b ρ μ1
    | none => .no
  | .chain p q a b c, ρ, μ => (ev a ρ μ).bind fun x μ1 => (ev b ρ μ1).bind fun y μ2 => (optR ((drs μ2 [x, y]).bind p.f) μ2).bind fun r μ3 => match r with
    | .bl true => (ev c ρ μ3).bind fun z μ4 => (optR ((drs μ4 [y, z]).bind q.f) μ4).bind fun r μ5 => .ok (.v r) μ5
    | .bl false => .ok (.v (.bl false)) μ3
    | _ => .no
  | .lc g t cs e own, ρ, μ => (evI g ρ μ).bind fun xs μ1 =>
      (noExc (lcGo (asg t) (evC cs) (fun ρ μ => (ev e ρ μ).bind toV) μ1.length (wipeE ρ own) xs (μ1 ++ [⟨false, .lst []⟩]))).bind fun _ μ2 => lcEnd μ1.length μ2
def evs : List E → Env → Mu → Res (List A)
  | [], _, μ => .ok [] μ
  | e :: es, ρ, μ => (ev e ρ μ).bind fun a μ1 => (evs es ρ μ1).bind fun as μ2 => .ok (a :: as) μ2
/-- all of a clause's tests -/
def evC : List E → Env → Mu → Res Bool
  | [], _, μ => .ok true μ
  | e :: es, ρ, μ => (ev e ρ μ).bind fun x μ1 => match (dr μ1 x).bind tru with
    | some true => evC es ρ μ1
    | some false => .ok false μ1
    | none => .no
def evI : I → Env → Mu → Res (List D)
  | .of e, ρ, μ => (ev e ρ μ).bind fun a μ1 => match a with
    | .v d => optR (itOf d) μ1
    | _ => .no
  | .rng es, ρ, μ => (evs es ρ μ).bind fun as μ1 => optR ((vals as).bind rngOf) μ1
  | .enum e, ρ, μ => (ev e ρ μ).bind fun a μ1 => match a with
    | .v (.lst xs) => .ok (enumL 0 xs) μ1
    | .v (.tup xs) => .ok (enumL 0 xs) μ1
    | _ => .no
  | .zip es, ρ, μ => (evs es ρ μ).bind fun as μ1 => match as with
    | [.v (.lst xs), .v (.lst ys)] => .ok (zipL xs ys) μ1
    | [.v (.tup xs), .v (.tup ys)] => .ok (zipL xs ys) μ1
    | _ => .no
end


inductive Out where
  | nx (ρ : Env) (μ : Mu)
  | brk (ρ : Env) (μ : Mu)
  | cnt (ρ : Env) (μ : Mu)
  | ret (d : D) (μ : Mu)
  | exc (c : String) (d : D) (ρ : Env) (μ : Mu)
  | no

def Res.st {α : Type} (r : Res α) (ρ : Env) (k : α → Mu → Out) : Out := match r with
  | .ok a μ => k a μ
  | .exc c d μ => .exc c d ρ μ
  | .no => .no

def Out.seq (o : Out) (k : Env → Mu → Out) : Out := match o with
  | .nx ρ μ => k ρ μ
  | o => o

def forGo (tg : D → Env → Option Env) (body : Env → Mu → Out) : List D → Env → Mu → Out
  | [], ρ, μ => .nx ρ μ
  | x :: xs, ρ, μ => match tg x ρ with
    | none => .no
    | some ρ' => match body ρ' μ with
      | .nx ρ μ => forGo tg body xs ρ μ
      | .cnt ρ μ => forGo tg body xs ρ μ
      | .brk ρ μ => .nx ρ μ
      | o => o

def whGo (test : Env → Mu → Res Bool) (body : Env → Mu → Out) : Nat → Env → Mu → Out
  | 0, _, _ => .no
  | n + 1, ρ, μ => (test ρ μ).st ρ fun b μ1 => if b then match body ρ μ1 with
      | .nx ρ μ => whGo test body n ρ μ
      | .cnt ρ μ => whGo test body n ρ μ
      | .brk ρ μ => .nx ρ μ
      | o => o
    else .nx ρ μ1

def evT (e : E) (ρ : Env) (μ : Mu) : Res Bool := (ev e ρ μ).bind fun x μ1 => optR ((dr μ1 x).bind tru) μ1

/-- the slots that hold cell n forgotten -/
def killC (n : Nat) : Env → Env
  | [] => []
  | some (.c k) :: r => (if k = n then none else some (.c k)) :: killC n r
  | o :: r => o :: killC n r

def putAll (ρ : Env) : List Nat → List A → Option Env
  | [], [] => some ρ
  | i :: is, a :: as => if i < ρ.length then putAll (ρ.set i (some a)) is as else none
  | _, _ => none
/-- a cell is begun anew -/
def begC (n : Nat) (c : C) (ρ : Env) (μ : Mu) : Res (A × Env) := if n < μ.length then .ok (.c n, killC n ρ) (μ.set n ⟨false, c⟩) else .no
def ev1 (n0 : Nat) : Pi → Env → Mu → Res (A × Env)
  | .v e, ρ, μ => (ev e ρ μ).bind fun a μ1 => match a with
    | .v d => .ok (.v d, ρ) μ1
    | _ => .no
  | .t e, ρ, μ => (ev e ρ μ).bind fun a μ1 => match a with
    | .v d => .ok (.t d, ρ) μ1
    | _ => .no
  | .n j e, ρ, μ => (ev e ρ μ).bind fun a μ1 => match a with
    | .v (.lst xs) => begC (n0 + j) (.lst xs) ρ μ1
    | _ => .no
  | .dK j, ρ, μ => begC (n0 + j) (.dK []) ρ μ
  | .dT j, ρ, μ => begC (n0 + j) (.dT []) ρ μ
def Pi.plain : Pi → Bool
  | .v _ => true
  | .t _ => true
  | _ => false
def Pi.cells : List Pi → List Nat
  | [] => []
  | .n j _ :: r => j :: Pi.cells r
  | .dK j :: r => j :: Pi.cells r
  | .dT j :: r => j :: Pi.cells r
  | _ :: r => Pi.cells r
def evk (n0 : Nat) : List Pi → Env → Mu → Res (List A × Env)
  | [], ρ, μ => .ok ([], ρ) μ
  | p :: ps, ρ, μ => (ev1 n0 p ρ μ).bind fun x μ1 => (if p.plain then evk n0 ps x.2 μ1 else noExc (evk n0 ps x.2 μ1)).bind fun y μ2 => .ok (x.1 :: y.1, y.2) μ2

mutual
/-- n0: how many cells stood at the def's entry -/
def ex (n0 : Nat) : S → Env → Mu → Out
  | .set t e, ρ, μ => (ev e ρ μ).st ρ fun a μ1 => match a with
    | .v d => match asg t d ρ with
      | some ρ' => .nx ρ' μ1
      | none => .no
    | _ => .no
  | .setT i e, ρ, μ => (ev e ρ μ).st ρ fun a μ1 => match a with
    | .v d => if i < ρ.length then .nx (ρ.set i (some (.t d))) μ1 else .no
    | _ => .no
  | .par is es, ρ, μ => (evk n0 es ρ μ).st ρ fun x μ1 => match putAll x.2 is x.1 with
    | some ρ' => .nx ρ' μ1
    | none => .no
  | .new i j e, ρ, μ => (ev e ρ μ).st ρ fun a μ1 => match a with
    | .v (.lst xs) => if i < ρ.length ∧ n0 + j < μ1.length then .nx ((killC (n0 + j) ρ).set i (some (.c (n0 + j)))) (μ1.set (n0 + j) ⟨false, .lst xs⟩) else .no
    | _ => .no
  | .newD i j c, ρ, μ => if i < ρ.length ∧ n0 + j < μ.length then .nx ((killC (n0 + j) ρ).set i (some (.c (n0 + j)))) (μ.set (n0 + j) ⟨false, c⟩) else .no
  | .updL x k v, ρ, μ => (ev v ρ μ).st ρ fun va μ1 => (ev x ρ μ1).st ρ fun xa μ2 => (ev k ρ μ2).st ρ fun ka μ3 => match va, xa, ka with
    | .v vd, .c n, .v kd => match μ3[n]? with
      | some ⟨false, c⟩ => match updL c kd vd with
        | some c' => .nx ρ (μ3.set n ⟨false, c'⟩)
        | none => .no
      | _ => .no
    | _, _, _ => .no
  | .updD x k v, ρ, μ => (ev v ρ μ).st ρ fun va μ1 => (ev x ρ μ1).st ρ fun xa μ2 => (ev k ρ μ2).st ρ fun ka μ3 => match va, xa with
    | .v vd, .c n => match μ3[n]? with
      | some ⟨false, c⟩ => match updD c ka vd with
        | some c' => .nx ρ (μ3.set n ⟨false, c'⟩)
        | none => .no
      | _ => .no
    | _, _ => .no
  | .aug i p e, ρ, μ => match ρ[i]? with
    | some (some (.v x)) => (ev e ρ μ).st ρ fun a μ1 => match dr μ1 a with
      | some y => match p.f [x, y] with
        | some d => .nx (ρ.set i (some (.v d))) μ1
        | none => .no
      | none => .no
    | _ => .no
  | .augL x k p e, ρ, μ => (ev x ρ μ).st ρ fun xa μ1 => (ev k ρ μ1).st ρ fun ka μ2 => match xa, ka with
    | .c n, .v kd => match μ2[n]? with
      | some ⟨_, c⟩ => match lookL c kd with
        | some old => (ev e ρ μ2).st ρ fun a μ3 => match dr μ3 a, μ3[n]? with
          | some y, some ⟨false, c3⟩ => match p.f [old, y] with
            | some d => match updL c3 kd d with
              | some c' => .nx ρ (μ3.set n ⟨false, c'⟩)
              | none => .no
            | none => .no
          | _, _ => .no
        | none => .no
      | none => .no
    | _, _ => .no
  | .augD x k p e, ρ, μ => (ev x ρ μ).st ρ fun xa μ1 => (ev k ρ μ1).st ρ fun ka μ2 => match xa with
    | .c n => match μ2[n]? with
      | some ⟨_, c⟩ => match lookD c ka with
        | some old => (ev e ρ μ2).st ρ fun a μ3 => match dr μ3 a, μ3[n]? with
          | some y, some ⟨false, c3⟩ => match p.f [old, y] with
            | some d => match updD c3 ka d with
              | some c' => .nx ρ (μ3.set n ⟨false, c'⟩)
              | none => .no
            | none => .no
          | _, _ => .no
        | none => .no
      | none => .no
    | _ => .no
  | .xp e, ρ, μ => (ev e ρ μ).st ρ fun _ μ1 => .nx ρ μ1
  | .ife c a b, ρ, μ => (evT c ρ μ).st ρ fun t μ1 => if t then exs n0 a ρ μ1 else exs n0 b ρ μ1
  | .for t g b, ρ, μ => (evI g ρ μ).st ρ fun xs μ1 => forGo (asg t) (exs n0 b) xs ρ μ1
  | .whl n c b, ρ, μ => whGo (evT c) (exs n0 b) n ρ μ
  | .ret e, ρ, μ => (ev e ρ μ).st ρ fun a μ1 => match a with
    | .v d => .ret d μ1
    | .t d => .ret d μ1
    | .c _ => .no
  | .retC i, ρ, μ => match ρ[i]? with
    | some (some (.c n)) => if n0 ≤ n then match μ[n]? with
      | some ⟨false, .lst xs⟩ => .ret (.lst xs) μ
      | _ => .no
      else .no
    | _ => .no
  | .stuck, ρ, μ => .no
  | .brk, ρ, μ => .brk ρ μ
  | .cnt, ρ, μ => .cnt ρ μ
  | .pas, ρ, μ => .nx ρ μ
  | .rai c e, ρ, μ => (ev e ρ μ).st ρ fun a μ1 => match a with
    | .v d => .exc c d ρ μ1
    | _ => .no
  | .tryV b c i k f, ρ, μ => match exs n0 b ρ μ with
    | .exc c' d ρ' μ' => if c' = c ∧ i < ρ'.length ∧ k < ρ'.length ∧ i ≠ k then .nx ((ρ'.set k (some (.v (f d)))).set i none) μ' else .no
    | o => o
  | .swapL x k l a b, ρ, μ => (ev a ρ μ).st ρ fun va μ1 => (ev b ρ μ1).st ρ fun vb μ2 => (ev x ρ μ2).st ρ fun xa μ3 => (ev k ρ μ3).st ρ fun ka μ4 => match va, xa, ka with
    | .v vd, .c n, .v kd => match μ4[n]? with
      | some ⟨false, c⟩ => match updL c kd vd with
        | some c' => (ev x ρ (μ4.set n ⟨false, c'⟩)).st ρ fun xb μ5 => (ev l ρ μ5).st ρ fun la μ6 => match vb, xb, la with
          | .v wd, .c n2, .v ld => match μ6[n2]? with
            | some ⟨false, c2⟩ => match updL c2 ld wd with
              | some c2' => .nx ρ (μ6.set n2 ⟨false, c2'⟩)
              | none => .no
            | _ => .no
          | _, _, _ => .no
        | none => .no
      | _ => .no
    | _, _, _ => .no
def exs (n0 : Nat) : List S → Env → Mu → Out
  | [], ρ, μ => .nx ρ μ
  | s :: r, ρ, μ => (ex n0 s ρ μ).seq (exs n0 r)
end

/-- a def: its number of slots, of cells of its own, its body -/
structure Df where
  slots : Nat
  cells : Nat
  body : List S

def Df.run (f : Df) (as : List A) (μ : Mu) : Res D :=
  match exs μ.length f.body (as.map some ++ List.replicate (f.slots - as.length) none) (μ ++ List.replicate f.cells ⟨false, .dead⟩) with
  | .nx _ μ' => .ok .non (μ'.take μ.length)
  | .ret d μ' => .ok d (μ'.take μ.length)
  | .exc c d _ μ' => .exc c d (μ'.take μ.length)
  | _ => .no

end Wp

set_option Elab.async false
set_option linter.all false
set_option maxRecDepth 100000
set_option autoImplicit true
/-! W1a: data in the abstract heap; readings by what the small language computes. -/
namespace Wp
open PySem PySem.Spec PyProof.Rows L2

abbrev Frag := PySem.W.Frag
def sx (s : Tx) : Str := ⟨s.toArray⟩
theorem sx_tl (s : Tx) : TL.tl (sx s) = s := rfl

mutual
inductive Rep (K : Frag) (F : Hp) : V → D → Prop
  | non : Rep K F .non .non
  | bl (b : Bool) : Rep K F (.bl b) (.bl b)
  | int (i : Int) : Rep K F (.int i) (.int i)
  | str (s : Tx) : Rep K F (.str (sx s)) (.str s)
  | tup {a : Addr} {vs : List V} {ds : List D} : SqT K F a vs → Reps K F vs ds → Rep K F (.ref a) (.tup ds)
  | lst {a : Addr} {vs : List V} {ds : List D} : F a = some (.lst vs) → Reps K F vs ds → Rep K F (.ref a) (.lst ds)
  | frz {a : Addr} {vs : List V} {ds : List D} : SqL K F a vs → Reps K F vs ds → Rep K F (.ref a) (.frz ds)
  | fn (x : String) : Rep K F (.ref (He.ga K (Str.ofString x))) (.fn x)
inductive Reps (K : Frag) (F : Hp) : List V → List D → Prop
  | nil : Reps K F [] []
  | cons {v : V} {d : D} {vs : List V} {ds : List D} : Rep K F v d → Reps K F vs ds → Reps K F (v :: vs) (d :: ds)
end

theorem same_tup {K : Frag} {H H' : Hp} {a : Addr} {xs : List V} (e : Same H H') (h : SqT K H a xs) : SqT K H' a xs := by
  rcases h with (h | ⟨o, h⟩) | h
  · exact .inl (.inl (e _ _ h))
  · exact .inl (.inr ⟨o, e _ _ h⟩)
  · exact .inr h
mutual
theorem Rep.mono {K : Frag} {F F' : Hp} (s : Same F F') : ∀ {v : V} {d : D}, Rep K F v d → Rep K F' v d
  | _, _, .non => .non
  | _, _, .bl b => .bl b
  | _, _, .int i => .int i
  | _, _, .str x => .str x
  | _, _, .tup h r => .tup (same_tup s h) (Reps.mono s r)
  | _, _, .lst h r => .lst (s _ _ h) (Reps.mono s r)
  | _, _, .frz h r => .frz (s.seq h) (Reps.mono s r)
  | _, _, .fn x => .fn x
theorem Reps.mono {K : Frag} {F F' : Hp} (s : Same F F') : ∀ {vs : List V} {ds : List D}, Reps K F vs ds → Reps K F' vs ds
  | _, _, .nil => .nil
  | _, _, .cons a b => .cons (Rep.mono s a) (Reps.mono s b)
end
theorem Reps.length {K : Frag} {F : Hp} : ∀ {vs : List V} {ds : List D}, Reps K F vs ds → vs.length = ds.length
  | _, _, .nil => rfl
  | _, _, .cons _ b => congrArg Nat.succ b.length
theorem Reps.get {K : Frag} {F : Hp} : ∀ {vs : List V} {ds : List D} {i : Nat} {d : D}, Reps K F vs ds → ds[i]? = some d → ∃ v, vs[i]? = some v ∧ Rep K F v d
  | _, _, _, _, .nil, h => by simp at h
  | _, _, 0, _, .cons a _, h => by simp at h; subst h; exact ⟨_, rfl, a⟩
  | _, _, i + 1, _, .cons _ b, h => by
    obtain ⟨v, e, r⟩ := b.get (i := i) (by simpa using h)
    exact ⟨v, by simpa using e, r⟩
theorem Reps.append {K : Frag} {F : Hp} : ∀ {vs ws : List V} {ds es : List D}, Reps K F vs ds → Reps K F ws es → Reps K F (vs ++ ws) (ds ++ es)
  | _, _, _, _, .nil, s => s
  | _, _, _, _, .cons a b, s => .cons a (b.append s)
theorem Reps.take {K : Frag} {F : Hp} : ∀ {vs : List V} {ds : List D} (n : Nat), Reps K F vs ds → Reps K F (vs.take n) (ds.take n)
  | _, _, 0, _ => .nil
  | _, _, _ + 1, .nil => .nil
  | _, _, n + 1, .cons a b => .cons a (b.take n)
theorem Reps.drop {K : Frag} {F : Hp} : ∀ {vs : List V} {ds : List D} (n : Nat), Reps K F vs ds → Reps K F (vs.drop n) (ds.drop n)
  | _, _, 0, r => r
  | _, _, _ + 1, .nil => .nil
  | _, _, n + 1, .cons _ b => b.drop n
theorem Reps.set {K : Frag} {F : Hp} {v : V} {d : D} (r : Rep K F v d) : ∀ {vs : List V} {ds : List D} (i : Nat), Reps K F vs ds → Reps K F (vs.set i v) (ds.set i d)
  | _, _, _, .nil => .nil
  | _, _, 0, .cons _ b => .cons r b
  | _, _, i + 1, .cons a b => .cons a (b.set r i)

/-- what cell a holds, at address a -/
def CellOk (K : Frag) (F H : Hp) (a : Addr) : Cell → Prop
  | ⟨_, .dead⟩ => True
  | ⟨false, .lst ds⟩ => ∃ vs, H a = some (.lst vs) ∧ Reps K F vs ds ∧ F a = none
  | ⟨true, .lst ds⟩ => ∃ vs, F a = some (.lst vs) ∧ Reps K F vs ds
  | ⟨_, .dK kvs⟩ => ∃ ks : List (Key × V), H a = some (.dK ks) ∧ F a = none ∧ Paired (fun (p : Key × V) (q : D × D) => Rep K F (kV p.1) q.1 ∧ Rep K F p.2 q.2) ks kvs
  | ⟨_, .dT kvs⟩ => ∃ ks : List (List Key × V), H a = some (.dT ks) ∧ F a = none ∧ Paired (fun (p : List Key × V) (q : D × D) => (∃ es, q.1 = .tup es ∧ Reps K F (p.1.map kV) es) ∧ Rep K F p.2 q.2) ks kvs
def Cell.live : Cell → Prop
  | ⟨_, .dead⟩ => False
  | _ => True

structure Sim (K : Frag) (F : Hp) (m : List Addr) (μ : Mu) (H : Hp) : Prop where
  len : m.length = μ.length
  sub : Same F H
  cell : ∀ (i : Nat) a c, m[i]? = some a → μ[i]? = some c → CellOk K F H a c
  inj : ∀ (i j : Nat) a c c', m[i]? = some a → m[j]? = some a → μ[i]? = some c → μ[j]? = some c' → c.live → c'.live → i = j

/-- a tuple that was made here -/
def RepT (K : Frag) (F : Hp) (v : V) : D → Prop
  | .tup ds => ∃ a vs, v = .ref a ∧ F a = some (.tup vs) ∧ Reps K F vs ds
  | d => Rep K F v d
theorem RepT.rep {K : Frag} {F : Hp} {v : V} {d : D} (h : RepT K F v d) : Rep K F v d := by
  cases d with
  | tup ds =>
    obtain ⟨a, vs, rfl, h1, h2⟩ := h
    exact .tup (.of h1) h2
  | _ => exact h
theorem RepT.mono {K : Frag} {F F' : Hp} {v : V} {d : D} (s : Same F F') (h : RepT K F v d) : RepT K F' v d := by
  cases d with
  | tup ds =>
    obtain ⟨a, vs, e1, h1, h2⟩ := h
    exact ⟨a, vs, e1, s _ _ h1, h2.mono s⟩
  | _ => exact Rep.mono s h
def RepA (K : Frag) (F : Hp) (m : List Addr) : V → A → Prop
  | v, .v d => Rep K F v d
  | v, .t d => RepT K F v d
  | v, .c n => ∃ a, m[n]? = some a ∧ v = .ref a
theorem RepA.mono {K : Frag} {F F' : Hp} {m : List Addr} (s : Same F F') {v : V} {a : A} (h : RepA K F m v a) : RepA K F' m v a := by
  cases a with
  | v d => exact Rep.mono s h
  | t d => exact RepT.mono s h
  | c n => exact h
/-- a list of arguments -/
abbrev RepAs (K : Frag) (F : Hp) (m : List Addr) : List V → List A → Prop := Paired (RepA K F m)
theorem RepAs.mono {K : Frag} {F F' : Hp} {m : List Addr} (s : Same F F') : ∀ {vs : List V} {as : List A}, RepAs K F m vs as → RepAs K F' m vs as
  | _, _, .nil => .nil
  | _, _, .cons a b => .cons (a.mono s) (RepAs.mono s b)
/-- the slots -/
structure RepS (K : Frag) (F : Hp) (m : List Addr) (σ : L2.St) (ρ : Env) : Prop where
  len : σ.length = ρ.length
  get : ∀ (i : Nat) a, ρ[i]? = some (some a) → ∃ v, σ[i]? = some (some v) ∧ RepA K F m v a
theorem RepS.mono {K : Frag} {F F' : Hp} {m : List Addr} {σ : L2.St} {ρ : Env} (s : Same F F') (h : RepS K F m σ ρ) : RepS K F' m σ ρ :=
  ⟨h.len, fun i a e => let ⟨v, e1, r⟩ := h.get i a e; ⟨v, e1, r.mono s⟩⟩

/-- what stands there now -/
def Rn (K : Frag) (F H : Hp) (v : V) (d : D) : Prop := Rep K F v d ∨ ∃ a vs ds, v = .ref a ∧ d = .lst ds ∧ H a = some (.lst vs) ∧ Reps K F vs ds
theorem Sim.dr {K : Frag} {F H : Hp} {m : List Addr} {μ : Mu} (S : Sim K F m μ H) {v : V} {a : A} {d : D} (r : RepA K F m v a) (e : Wp.dr μ a = some d) : Rn K F H v d := by
  cases a with
  | v d' =>
    cases e
    exact .inl r
  | t d' =>
    cases e
    exact .inl (RepT.rep r)
  | c n =>
    obtain ⟨a, ea, rfl⟩ := r
    have e : (match μ[n]? with
      | some ⟨_, .lst xs⟩ => some (.lst xs)
      | _ => none) = some d := e
    split at e
    · rename_i fz xs ec
      cases e
      have h := S.cell n a _ ea ec
      cases fz with
      | false =>
        obtain ⟨vs, h1, h2, _⟩ := h
        exact .inr ⟨a, vs, xs, rfl, rfl, h1, h2⟩
      | true =>
        obtain ⟨vs, h1, h2⟩ := h
        exact .inr ⟨a, vs, xs, rfl, rfl, S.sub _ _ h1, h2⟩
    · cases e
theorem Sim.lstH {K : Frag} {F H : Hp} {m : List Addr} {μ : Mu} (S : Sim K F m μ H) {v : V} {ds : List D} (r : Rn K F H v (.lst ds)) : ∃ a vs, v = .ref a ∧ H a = some (.lst vs) ∧ Reps K F vs ds := by
  rcases r with r | ⟨a, vs, ds', rfl, e, h1, h2⟩
  · cases r with
    | lst h rs => exact ⟨_, _, rfl, S.sub _ _ h, rs⟩
  · cases e
    exact ⟨a, vs, rfl, h1, h2⟩
theorem Sim.seqL {K : Frag} {F H : Hp} {m : List Addr} {μ : Mu} (S : Sim K F m μ H) {v : V} {ds : List D} (r : Rn K F H v (.lst ds)) : ∃ a vs, v = .ref a ∧ SqL K H a vs ∧ Reps K F vs ds :=
  let ⟨a, vs, e, h, q⟩ := S.lstH r
  ⟨a, vs, e, .of h, q⟩
theorem Sim.seqT {K : Frag} {F H : Hp} {m : List Addr} {μ : Mu} (S : Sim K F m μ H) {v : V} {ds : List D} (r : Rn K F H v (.tup ds)) : ∃ a vs, v = .ref a ∧ SqT K H a vs ∧ Reps K F vs ds := by
  rcases r with r | ⟨a, vs, ds', rfl, e, h1, h2⟩
  · cases r with
    | tup h rs => exact ⟨_, _, rfl, same_tup S.sub h, rs⟩
  · cases e
theorem Rn.int {K : Frag} {F H : Hp} {v : V} {i : Int} (r : Rn K F H v (.int i)) : v = .int i := by
  rcases r with r | ⟨a, vs, ds', rfl, e, h1, h2⟩
  · cases r; rfl
  · cases e
theorem Rn.bl {K : Frag} {F H : Hp} {v : V} {i : Bool} (r : Rn K F H v (.bl i)) : v = .bl i := by
  rcases r with r | ⟨a, vs, ds', rfl, e, h1, h2⟩
  · cases r; rfl
  · cases e
theorem Rn.str {K : Frag} {F H : Hp} {v : V} {i : Tx} (r : Rn K F H v (.str i)) : v = .str (sx i) := by
  rcases r with r | ⟨a, vs, ds', rfl, e, h1, h2⟩
  · cases r; rfl
  · cases e
theorem Rn.non {K : Frag} {F H : Hp} {v : V} (r : Rn K F H v .non) : v = .non := by
  rcases r with r | ⟨a, vs, ds', rfl, e, h1, h2⟩
  · cases r; rfl
  · cases e

/-- a new list, not yet frozen; other data as they are -/
def RepN (K : Frag) (F : Hp) (m : List Addr) (μ : Mu) (H : Hp) (v : V) : D → Prop
  | .lst ds => ∃ a vs, v = .ref a ∧ H a = some (.lst vs) ∧ Reps K F vs ds ∧ F a = none ∧ ∀ (i : Nat) c, m[i]? = some a → μ[i]? = some c → ¬ c.live
  | d => Rep K F v d
def RepR (K : Frag) (new : Md) (F : Hp) (m : List Addr) (μ : Mu) (H : Hp) (v : V) (a : A) : Prop := match new, a with
  | .n, .v d => RepN K F m μ H v d
  | .t, .v d => RepT K F v d
  | .v, a => RepA K F m v a
  | _, _ => False

theorem same_upd {F : Hp} {p : Addr} {o : HO} (h : F p = none) : Same F (upd F p o) := fun b x e => by
  rw [upd_ne (ne_of_none e h)]
  exact e
theorem same_upd2 {F H : Hp} {p : Addr} {o : HO} (s : Same F H) (h : F p = none) : Same F (upd H p o) := fun b x e => by
  rw [upd_ne (ne_of_none e h)]
  exact s b x e
theorem mem_of_getm {m : List Addr} {i : Nat} {a : Addr} (h : m[i]? = some a) : a ∈ m := List.mem_of_getElem? h

theorem Paired.imp {α β : Type} {R S : α → β → Prop} : ∀ {l : List α} {l' : List β}, Paired R l l' → (∀ a b, R a b → S a b) → Paired S l l'
  | _, _, .nil, _ => .nil
  | _, _, .cons r t, f => .cons (f _ _ r) (Paired.imp t f)

theorem CellOk.mono {K : Frag} {F F' H H' : Hp} {a : Addr} {c : Cell} (s : Same F F') (h : CellOk K F H a c) (hH : ∀ o, H a = some o → H' a = some o) (hF : F a = none → F' a = none) : CellOk K F' H' a c := by
  obtain ⟨fz, c⟩ := c
  cases c with
  | dead => trivial
  | lst ds =>
    cases fz with
    | false =>
      obtain ⟨vs, h1, h2, h3⟩ := h
      exact ⟨vs, hH _ h1, h2.mono s, hF h3⟩
    | true =>
      obtain ⟨vs, h1, h2⟩ := h
      exact ⟨vs, s _ _ h1, h2.mono s⟩
  | dK kvs =>
    cases fz <;>
    · obtain ⟨ks, h1, h2, h3⟩ := h
      exact ⟨ks, hH _ h1, hF h2, Paired.imp h3 fun _ _ z => ⟨z.1.mono s, z.2.mono s⟩⟩
  | dT kvs =>
    cases fz <;>
    · obtain ⟨ks, h1, h2, h3⟩ := h
      exact ⟨ks, hH _ h1, hF h2, Paired.imp h3 fun _ _ z => ⟨let ⟨es, e, q⟩ := z.1; ⟨es, e, q.mono s⟩, z.2.mono s⟩⟩
/-- a cell's address is not a free one -/
theorem CellOk.there {K : Frag} {F H : Hp} {a : Addr} {c : Cell} (s : Same F H) (h : CellOk K F H a c) (hl : c.live) : H a ≠ none := by
  obtain ⟨fz, c⟩ := c
  cases c with
  | dead => exact hl.elim
  | lst ds =>
    cases fz with
    | false =>
      obtain ⟨vs, h1, h2, h3⟩ := h
      rw [h1]; simp
    | true =>
      obtain ⟨vs, h1, h2⟩ := h
      rw [s _ _ h1]; simp
  | dK kvs => cases fz <;> (obtain ⟨ks, h1, _⟩ := h; rw [h1]; simp)
  | dT kvs => cases fz <;> (obtain ⟨ks, h1, _⟩ := h; rw [h1]; simp)
/-- a new object, not tracked by us -/
theorem Sim.laid {K : Frag} {F H : Hp} {m : List Addr} {μ : Mu} {p : Addr} {o : HO} (S : Sim K F m μ H) (hp : H p = none) : Sim K F m μ (upd H p o) := by
  have hF : F p = none := S.sub.free hp
  refine ⟨S.len, same_upd2 S.sub hF, fun i a c e1 e2 => ?_, S.inj⟩
  by_cases hl : c.live
  · have := (S.cell i a c e1 e2).there S.sub hl
    exact (S.cell i a c e1 e2).mono (Same.refl F) (fun x e => by rw [upd_ne (ne_of_none e hp)]; exact e) id
  · obtain ⟨fz, c⟩ := c
    cases c with
    | dead => trivial
    | _ => exact (hl trivial).elim
/-- .. a new frozen object -/
theorem Sim.frozen {K : Frag} {F H : Hp} {m : List Addr} {μ : Mu} {p : Addr} {o : HO} (S : Sim K F m μ H) (hp : H p = none) : Same F (upd F p o) ∧ Sim K (upd F p o) m μ (upd H p o) := by
  have hF : F p = none := S.sub.free hp
  have sF : Same F (upd F p o) := same_upd hF
  refine ⟨sF, S.len, fun b x e => ?_, fun i a c e1 e2 => ?_, S.inj⟩
  · by_cases hb : b = p
    · subst hb
      rw [upd_same] at e ⊢
      exact e
    · rw [upd_ne hb] at e ⊢
      exact S.sub _ _ e
  · by_cases hl : c.live
    · have ht := (S.cell i a c e1 e2).there S.sub hl
      have hap : a ≠ p := fun z => by rw [z] at ht; exact ht hp
      exact (S.cell i a c e1 e2).mono sF (fun x e => by rw [upd_ne hap]; exact e) fun z => by rw [upd_ne hap]; exact z
    · obtain ⟨fz, c⟩ := c
      cases c with
      | dead => trivial
      | _ => exact (hl trivial).elim
/-- a free address is no live cell's -/
theorem Sim.notCell {K : Frag} {F H : Hp} {m : List Addr} {μ : Mu} {p : Addr} (S : Sim K F m μ H) (hp : H p = none) (i : Nat) (c : Cell) (e1 : m[i]? = some p) (e2 : μ[i]? = some c) : ¬ c.live := fun hl =>
  (S.cell i p c e1 e2).there S.sub hl hp
/-- a new list is frozen -/
theorem Sim.freezeN {K : Frag} {F H : Hp} {m : List Addr} {μ : Mu} {v : V} {d : D} (S : Sim K F m μ H) (r : RepN K F m μ H v d) : ∃ F', Same F F' ∧ Sim K F' m μ H ∧ Rep K F' v d := by
  cases d with
  | lst ds =>
    obtain ⟨a, vs, rfl, h1, h2, h3, h4⟩ := r
    have sF : Same F (upd F a (.lst vs)) := same_upd h3
    refine ⟨upd F a (.lst vs), sF, ⟨S.len, fun b x e => ?_, fun i b c e1 e2 => ?_, S.inj⟩, .lst upd_same (h2.mono sF)⟩
    · by_cases hb : b = a
      · subst hb
        rw [upd_same] at e
        cases e
        exact h1
      · rw [upd_ne hb] at e
        exact S.sub _ _ e
    · by_cases hl : c.live
      · have hba : b ≠ a := fun z => h4 i c (z ▸ e1) e2 hl
        exact (S.cell i b c e1 e2).mono sF (fun x e => e) fun z => by rw [upd_ne hba]; exact z
      · obtain ⟨fz, c⟩ := c
        cases c with
        | dead => trivial
        | _ => exact (hl trivial).elim
  | _ => exact ⟨F, Same.refl F, S, r⟩

/-! ### readings -/
/-- an exception that lies there -/
def ExcAt (K : Frag) (F H : Hp) (c : String) (d : D) (cls : Value) (dx : Option Addr) : Prop :=
  ∃ (x : Addr) (v : V), cls = .ref (He.ga K (Str.ofString c)) ∧ dx = some x ∧ H x = some (.xd [("value", v)]) ∧ Rep K F v d
/-- behind a computation of the small language -/
def Post {α : Type} (K : Frag) (F : Hp) (m : List Addr) (k : Hp → Hp → Mu → α → Prop) (x : Hp → Hp → Mu → Value → Option Addr → Prop) : Res α → Prop
  | .ok a μ' => ∀ F' H', Same F F' → Sim K F' m μ' H' → k F' H' μ' a
  | .exc c d μ' => ∀ F' H' cls dx, Same F F' → Sim K F' m μ' H' → ExcAt K F' H' c d cls dx → x F' H' μ' cls dx
  | .no => False

/-- an expression's reading: W what is wanted of an exception -/
def tE (K : Frag) (W : WX) (new : Md) (e : E) : TE := fun σ H Q => ∃ F m μ ρ, Sim K F m μ H ∧ RepS K F m σ ρ ∧
  Post K F m (fun F' H' μ' a => ∀ v, RepR K new F' m μ' H' v a → Q v H') (fun _ H' _ cls dx => W cls dx σ H') (ev e ρ μ)
def tEs (K : Frag) (W : WX) (es : List E) : TA := fun σ H Q => ∃ F m μ ρ, Sim K F m μ H ∧ RepS K F m σ ρ ∧
  Post K F m (fun F' H' _ as => ∀ vs, RepAs K F' m vs as → Q vs H') (fun _ H' _ cls dx => W cls dx σ H') (evs es ρ μ)

theorem PE.imp {X : Cx} {e : Expr} {t t' : TE} (h : PE X e t) (i : ∀ σ H Q, t' σ H Q → t σ H Q) : PE X e t' := ⟨fun pins s σ H Q I q => h.run pins s σ H Q I (i σ H Q q)⟩
theorem PA.imp {X : Cx} {e : List Expr} {t t' : TA} (h : PA X e t) (i : ∀ σ H Q, t' σ H Q → t σ H Q) : PA X e t' := ⟨fun pos pins s σ H Q I q => h.run pos pins s σ H Q I (i σ H Q q)⟩
theorem PT.imp {X : Cx} {e : Expr} {t t' : TT} (h : PT X e t) (i : ∀ σ H Q, t' σ H Q → t σ H Q) : PT X e t' := ⟨fun pins s σ H Q I q => h.run pins s σ H Q I (i σ H Q q)⟩
theorem PW.imp {X : Cx} {e : Expr} {t t' : TT} (h : PW X e t) (i : ∀ σ H Q, t' σ H Q → t σ H Q) : PW X e t' := ⟨fun w pins s σ H Q I q => h.run w pins s σ H Q I (i σ H Q q)⟩
theorem PS.imp {X : Cx} {e : Stmt} {t t' : TS} (h : PS X e t) (i : ∀ D σ H, t' D σ H → t D σ H) : PS X e t' := ⟨fun pins s σ H D I q => h.run pins s σ H D I (i D σ H q)⟩
theorem PSs.imp {X : Cx} {e : List Stmt} {t t' : TS} (h : PSs X e t) (i : ∀ D σ H, t' D σ H → t D σ H) : PSs X e t' := ⟨fun pins s σ H D I q => h.run pins s σ H D I (i D σ H q)⟩

/-- Post through a bind -/
theorem Post.bind {α β : Type} {K : Frag} {F : Hp} {m : List Addr} {r : Res α} {f : α → Mu → Res β} {k : Hp → Hp → Mu → β → Prop} {x : Hp → Hp → Mu → Value → Option Addr → Prop}
    (h : Post K F m k x (r.bind f)) : Post K F m (fun F' H' μ' a => Post K F' m k x (f a μ')) x r := by
  cases r with
  | ok a μ' =>
    intro F' H' s S
    have h : Post K F m k x (f a μ') := h
    show Post K F' m k x (f a μ')
    cases q : f a μ' with
    | ok b μ2 =>
      rw [q] at h
      exact fun F2 H2 s2 S2 => h F2 H2 (s.trans s2) S2
    | exc c d μ2 =>
      rw [q] at h
      exact fun F2 H2 cls dx s2 S2 e => h F2 H2 cls dx (s.trans s2) S2 e
    | no =>
      rw [q] at h
      exact h
  | exc c d μ' => exact h
  | no => exact h
theorem Post.imp {α : Type} {K : Frag} {F : Hp} {m : List Addr} {r : Res α} {k k' : Hp → Hp → Mu → α → Prop} {x x' : Hp → Hp → Mu → Value → Option Addr → Prop}
    (h : Post K F m k x r) (hk : ∀ F' H' μ' a, Same F F' → Sim K F' m μ' H' → k F' H' μ' a → k' F' H' μ' a) (hx : ∀ F' H' μ' c d, x F' H' μ' c d → x' F' H' μ' c d) : Post K F m k' x' r := by
  cases r with
  | ok a μ' => exact fun F' H' s S => hk _ _ _ _ s S (h F' H' s S)
  | exc c d μ' => exact fun F' H' cls dx s S e => hx _ _ _ _ _ (h F' H' cls dx s S e)
  | no => exact h
theorem Post.ok {α : Type} {K : Frag} {F : Hp} {m : List Addr} {a : α} {μ : Mu} {H : Hp} {k : Hp → Hp → Mu → α → Prop} {x : Hp → Hp → Mu → Value → Option Addr → Prop} (h : Post K F m k x (.ok a μ)) (S : Sim K F m μ H) : k F H μ a := h F H (Same.refl F) S
end Wp

set_option Elab.async false
set_option linter.all false
set_option maxRecDepth 100000
set_option autoImplicit true
/-! W1b: the rules for expressions. -/
namespace Wp
open PySem PySem.Spec PyProof.Rows L2

abbrev LA := List Wp.A
section
variable {X : Cx} {W : WX} {e a b : Expr} {es : List Expr} {A B : E} {pos : Pos}

theorem okE_var {i : Nat} {x : Str} (hN : X.N[i]? = some x) (hv : Vis X.env.scope x) (hd : (x == ("__debug__" : Str)) = false) (hcd : (x == ("__classdict__" : Str)) = false) :
    PE X (.Name x pos) (tE X.K W .v (.var i)) := by
  refine PE.imp (pe_var hN hv hd hcd) fun σ H Q h => ?_
  obtain ⟨F, m, μ, ρ, S, R, h⟩ := h
  unfold ev at h
  split at h
  · rename_i y e1
    obtain ⟨v, e2, r⟩ := R.get i y e1
    exact ⟨v, e2, h F H (Same.refl F) S v r⟩
  · exact h.elim
/-- a constant value -/
theorem okE_k {d : D} {v : V} (h : PE X e (tC v)) (r : ∀ F, Rep X.K F v d) : PE X e (tE X.K W .v (.k d)) := by
  refine PE.imp h fun σ H Q h => ?_
  obtain ⟨F, m, μ, ρ, S, R, h⟩ := h
  exact h F H (Same.refl F) S v (r F)
/-- forgetting that it is new -/
theorem n2e (h : PE X e (tE X.K W .n A)) : PE X e (tE X.K W .v A) := by
  refine PE.imp h fun σ H Q h => ?_
  obtain ⟨F, m, μ, ρ, S, R, h⟩ := h
  refine ⟨F, m, μ, ρ, S, R, ?_⟩
  cases q : ev A ρ μ with
  | no => rw [q] at h; exact h
  | exc c d μ' => rw [q] at h; exact h
  | ok a μ' =>
    rw [q] at h
    intro F' H' s S' v r
    cases a with
    | c n => exact (show False from r).elim
    | t n => exact (show False from r).elim
    | v d =>
      obtain ⟨F2, s2, S2, r2⟩ := S'.freezeN (show RepN X.K F' m μ' H' v d from r)
      exact h F2 H' (s.trans s2) S2 v r2
/-- forgetting that it was made here -/
theorem t2e (h : PE X e (tE X.K W .t A)) : PE X e (tE X.K W .v A) := by
  refine PE.imp h fun σ H Q h => ?_
  obtain ⟨F, m, μ, ρ, S, R, h⟩ := h
  refine ⟨F, m, μ, ρ, S, R, ?_⟩
  cases q : ev A ρ μ with
  | no => rw [q] at h; exact h
  | exc c d μ' => rw [q] at h; exact h
  | ok a μ' =>
    rw [q] at h
    intro F' H' s S' v r
    cases a with
    | c n => exact (show False from r).elim
    | t n => exact (show False from r).elim
    | v d => exact h F' H' s S' v (RepT.rep (show RepT X.K F' v d from r))

/-! ### lists of expressions -/
theorem okEs_nil : PA X [] (tEs X.K W []) := by
  refine PA.imp pa_nil fun σ H Q h => ?_
  obtain ⟨F, m, μ, ρ, S, R, h⟩ := h
  exact h F H (Same.refl F) S [] .nil
theorem tEs_cons {A : E} {As : List E} {K : Frag} {σ : L2.St} {H : Hp} {Q : List V → Hp → Prop} (h : tEs K W (A :: As) σ H Q) :
    tE K W .v A σ H fun x H1 => tEs K W As σ H1 fun xs H2 => Q (x :: xs) H2 := by
  obtain ⟨F, m, μ, ρ, S, R, h⟩ := h
  refine ⟨F, m, μ, ρ, S, R, ?_⟩
  unfold evs at h
  refine (h.bind).imp (fun F' H' μ' x s S' q v r => ?_) fun _ _ _ _ _ x => x
  refine ⟨F', m, μ', ρ, S', R.mono s, ?_⟩
  refine (q.bind).imp (fun F2 H2 μ2 as s2 S2 q2 vs rs => ?_) fun _ _ _ _ _ x => x
  exact q2.ok S2 (v :: vs) (.cons (RepA.mono s2 r) rs)
theorem okEs_cons {As : List E} (ha : PE X e (tE X.K W .v A)) (hr : PA X es (tEs X.K W As)) (hs : starEach (e :: es) X.env = (false, eval e X.env) :: starEach es X.env) : PA X (e :: es) (tEs X.K W (A :: As)) :=
  PA.imp (pa_cons ha hr hs) fun _ _ _ h => tEs_cons h
theorem tEs_two {K : Frag} {σ : L2.St} {H : Hp} {Q : List V → Hp → Prop} (h : tEs K W [A, B] σ H Q) : tE K W .v A σ H fun x H1 => tE K W .v B σ H1 fun y H2 => Q [x, y] H2 := by
  obtain ⟨F, m, μ, ρ, S, R, h⟩ := tEs_cons h
  refine ⟨F, m, μ, ρ, S, R, h.imp (fun F' H' μ' x s S' q v r => ?_) fun _ _ _ _ _ x => x⟩
  obtain ⟨F1, m1, μ1, ρ1, S1, R1, h1⟩ := tEs_cons (q v r)
  refine ⟨F1, m1, μ1, ρ1, S1, R1, h1.imp (fun F2 H2 μ2 y s2 S2 q2 w r2 => ?_) fun _ _ _ _ _ x => x⟩
  obtain ⟨F3, m3, μ3, ρ3, S3, R3, h3⟩ := q2 w r2
  exact h3.ok S3 [] .nil
theorem tEs_one {K : Frag} {σ : L2.St} {H : Hp} {Q : List V → Hp → Prop} (h : tEs K W [A] σ H Q) : tE K W .v A σ H fun x H1 => Q [x] H1 := by
  obtain ⟨F, m, μ, ρ, S, R, h⟩ := tEs_cons h
  refine ⟨F, m, μ, ρ, S, R, h.imp (fun F' H' μ' x s S' q v r => ?_) fun _ _ _ _ _ x => x⟩
  obtain ⟨F3, m3, μ3, ρ3, S3, R3, h3⟩ := q v r
  exact h3.ok S3 [] .nil

/-! ### operations on values -/
/-- the values' rule rr does what p says -/
def PrimN (K : Frag) (new : Md) (rr : List V → Hp → VK → Prop) (p : Pr) : Prop :=
  ∀ (F : Hp) (m : List Addr) (μ : Mu) (H : Hp) (vs : List V) (ds : List D) (res : D) (Q : VK), Sim K F m μ H → Paired (Rn K F H) vs ds → p ds = some res →
    (∀ F' H' v, Same F F' → Sim K F' m μ H' → RepR K new F' m μ H' v (.v res) → Q v H') → rr vs H Q
theorem drs_rel {K : Frag} {F H : Hp} {m : List Addr} {μ : Mu} (S : Sim K F m μ H) : ∀ {vs : List V} {as : LA} {ds : List D}, RepAs K F m vs as → drs μ as = some ds → Paired (Rn K F H) vs ds
  | _, _, _, .nil, e => by cases e; exact .nil
  | _, _, _, .cons r rs, e => by
    unfold drs at e
    split at e
    · rename_i d ds' e1 e2
      cases e
      exact .cons (S.dr r e1) (drs_rel S rs e2)
    · cases e
theorem vals_rel {K : Frag} {F : Hp} {m : List Addr} : ∀ {vs : List V} {as : LA} {ds : List D}, RepAs K F m vs as → vals as = some ds → Reps K F vs ds
  | _, _, _, .nil, e => by cases e; exact .nil
  | _, _, _, @Paired.cons _ _ _ v a vs as r rs, e => by
    cases a with
    | c n => cases e
    | v d =>
      unfold vals at e
      split at e
      · rename_i ds' e1
        cases e
        exact .cons r (vals_rel rs e1)
      · cases e
    | t d =>
      unfold vals at e
      split at e
      · rename_i ds' e1
        cases e
        exact .cons (RepT.rep r) (vals_rel rs e1)
      · cases e
theorem tE_prim {K : Frag} {new : Md} {p : P} {As : List E} {rr : List V → Hp → VK → Prop} (hp : PrimN K new rr p.f) {σ : L2.St} {H : Hp} {Q : VK} (h : tE K W new (.prim p As) σ H Q) :
    tEs K W As σ H fun vs H1 => rr vs H1 Q := by
  obtain ⟨F, m, μ, ρ, S, R, h⟩ := h
  unfold ev at h
  refine ⟨F, m, μ, ρ, S, R, (h.bind).imp (fun F' H' μ' as s S' q vs rs => ?_) fun _ _ _ _ _ x => x⟩
  cases e1 : drs μ' as with
  | none => rw [e1] at q; exact (show False from q).elim
  | some ds =>
    rw [e1] at q
    cases e2 : p.f ds with
    | none =>
      have q : Post K F' m _ _ ((optR (p.f ds) μ').bind _) := q
      rw [e2] at q
      exact (show False from q).elim
    | some res =>
      have q : Post K F' m _ _ ((optR (p.f ds) μ').bind _) := q
      rw [e2] at q
      exact hp F' m μ' H' vs ds res Q S' (drs_rel S' rs e1) e2 fun F2 H2 v s2 S2 r => q F2 H2 s2 S2 v r
/-- an operator's rule, by values -/
def rr2 (r : R2) : List V → Hp → VK → Prop := fun vs H Q => ∃ x y, vs = [x, y] ∧ r x y H Q
theorem okE_op {op : Operator} {r : R2} {p : P} {new : Md} (ho : OpR X (binaryOp op) r) (hp : PrimN X.K new (rr2 r) p.f) (ha : PE X a (tE X.K W .v A)) (hb : PE X b (tE X.K W .v B)) :
    PE X (.BinOp a op b pos) (tE X.K W new (.prim p [A, B])) := by
  refine PE.imp (pe_op ho ha hb) fun σ H Q h => ?_
  obtain ⟨F, m, μ, ρ, S, R, h⟩ := tEs_two (tE_prim hp h)
  refine ⟨F, m, μ, ρ, S, R, h.imp (fun F' H' μ' x s S' q v r1 => ?_) fun _ _ _ _ _ x => x⟩
  obtain ⟨F1, m1, μ1, ρ1, S1, R1, h1⟩ := q v r1
  refine ⟨F1, m1, μ1, ρ1, S1, R1, h1.imp (fun F2 H2 μ2 y s2 S2 q2 w r2 => ?_) fun _ _ _ _ _ x => x⟩
  obtain ⟨x', y', e, h⟩ := q2 w r2
  cases e
  exact h
theorem okE_cmp {op : CmpOp} {r : R2} {p : P} {new : Md} (ho : OpR X (compareOp op) r) (hp : PrimN X.K new (rr2 r) p.f) (ha : PE X a (tE X.K W .v A)) (hb : PE X b (tE X.K W .v B)) (hm : behindInMarks op b = false) :
    PE X (.Compare a [op] [b] pos) (tE X.K W new (.prim p [A, B])) := by
  refine PE.imp (pe_cmpR ho ha hb hm) fun σ H Q h => ?_
  obtain ⟨F, m, μ, ρ, S, R, h⟩ := tEs_two (tE_prim hp h)
  refine ⟨F, m, μ, ρ, S, R, h.imp (fun F' H' μ' x s S' q v r1 => ?_) fun _ _ _ _ _ x => x⟩
  obtain ⟨F1, m1, μ1, ρ1, S1, R1, h1⟩ := q v r1
  refine ⟨F1, m1, μ1, ρ1, S1, R1, h1.imp (fun F2 H2 μ2 y s2 S2 q2 w r2 => ?_) fun _ _ _ _ _ x => x⟩
  obtain ⟨x', y', e, h⟩ := q2 w r2
  cases e
  exact h

/-- one operand -/
def rr1 (r : V → Hp → VK → Prop) : List V → Hp → VK → Prop := fun vs H Q => ∃ x, vs = [x] ∧ r x H Q
theorem tE_one {K : Frag} {r : V → Hp → VK → Prop} {σ : L2.St} {H : Hp} {Q : VK} (h : tEs K W [A] σ H fun vs H1 => rr1 r vs H1 Q) : tE K W .v A σ H fun x H1 => r x H1 Q := by
  obtain ⟨F, m, μ, ρ, S, R, h⟩ := tEs_one h
  refine ⟨F, m, μ, ρ, S, R, h.imp (fun F' H' μ' x s S' q v r1 => ?_) fun _ _ _ _ _ x => x⟩
  obtain ⟨x', e, h⟩ := q v r1
  cases e
  exact h
theorem okE_un {op : UnaryOp} {r : V → Hp → VK → Prop} {p : P} {new : Md} (ho : UnR X (unaryOp op) r) (hp : PrimN X.K new (rr1 r) p.f) (ha : PE X a (tE X.K W .v A)) :
    PE X (.UnaryOp op a pos) (tE X.K W new (.prim p [A])) := PE.imp (pe_un ho ha) fun _ _ _ h => tE_one (tE_prim hp h)

/-! ### truth -/
theorem tru_rel {K : Frag} {F H : Hp} {m : List Addr} {μ : Mu} (S : Sim K F m μ H) {v : V} {d : D} {b : Bool} (r : Rn K F H v d) (e : tru d = some b) : TruV K v H b := by
  cases d with
  | non =>
    cases r.non
    cases e
    exact rfl
  | bl c =>
    cases r.bl
    cases e
    exact rfl
  | int i =>
    cases r.int
    cases e
    exact rfl
  | str x =>
    cases r.str
    have e : (if x.length ≤ SL then some (!x.isEmpty) else none) = some b := e
    split at e
    · rename_i hl
      cases e
      refine ⟨by show (sx x).cps.size ≤ _; simpa [sx, sizeLine_eq, SL] using hl, ?_⟩
      show (!x.isEmpty) = (((sx x).cps.size : Int) != 0)
      cases x with
      | nil => rfl
      | cons c l =>
        have h1 : (((sx (c :: l)).cps.size : Nat) : Int) ≠ 0 := by simp only [sx, List.size_toArray, List.length_cons]; omega
        have h2 : ((((sx (c :: l)).cps.size : Nat) : Int) != 0) = true := by simpa using h1
        rw [h2]; rfl
    · cases e
  | tup xs =>
    obtain ⟨a, vs, rfl, h1, h2⟩ := S.seqT r
    cases e
    refine .inr (.inl ⟨vs, h1, ?_⟩)
    cases h2 <;> rfl
  | lst xs =>
    obtain ⟨a, vs, rfl, h1, h2⟩ := S.seqL r
    cases e
    refine .inl ⟨vs, h1, ?_⟩
    cases h2 <;> rfl
  | fn x => cases e
  | exc c v => cases e
  | frz xs => cases e

/-- a test's reading -/
def tT (K : Frag) (W : WX) (e : E) : TT := fun σ H Q => ∃ F m μ ρ, Sim K F m μ H ∧ RepS K F m σ ρ ∧
  Post K F m (fun _ H' _ b => Q b H') (fun _ H' _ cls dx => W cls dx σ H') (evT e ρ μ)
/-- an expression, as a value and as a test -/
structure Ok (X : Cx) (W : WX) (x : Expr) (A : E) : Prop where
  ve : PE X x (tE X.K W .v A)
  te : PT X x (tT X.K W A)
/-- a chain of and, or -/
structure OkW (X : Cx) (W : WX) (x : Expr) (A : E) : Prop where
  ve : PE X x (tE X.K W .v A)
  te : PW X x (tT X.K W A)
theorem OkW.ok {x : Expr} (h : OkW X W x A) : Ok X W x A := ⟨h.ve, h.te.pt⟩
theorem tT_tE {K : Frag} {σ : L2.St} {H : Hp} {Q : Bool → Hp → Prop} (h : tT K W A σ H Q) : tE K W .v A σ H fun x H1 => ∃ k, TruV K x H1 k ∧ Q k H1 := by
  obtain ⟨F, m, μ, ρ, S, R, h⟩ := h
  unfold evT at h
  refine ⟨F, m, μ, ρ, S, R, (h.bind).imp (fun F' H' μ' x s S' q v r => ?_) fun _ _ _ _ _ x => x⟩
  cases e1 : dr μ' x with
  | none => rw [e1] at q; exact (show False from q).elim
  | some d =>
    rw [e1] at q
    cases e2 : tru d with
    | none =>
      have q : Post K F' m _ _ (optR (tru d) μ') := q
      rw [e2] at q
      exact (show False from q).elim
    | some b =>
      have q : Post K F' m _ _ (optR (tru d) μ') := q
      rw [e2] at q
      exact ⟨b, tru_rel S' (S'.dr r e1) e2, q.ok S'⟩
/-- a form that has no test of its own -/
theorem Ok.plain (h : PE X e (tE X.K W .v A)) (he : ∀ whole, isTrue e X.env whole = (do let v ← whole; standAt e.pos; holding [v] (truthy v))) : Ok X W e A :=
  ⟨h, PT.imp (pt_truth h he) fun _ _ _ q => tT_tE q⟩
/-- a comparison -/
theorem ok_cmp {op : CmpOp} {r : R2} {p : P} (ho : OpR X (compareOp op) r) (hp : PrimN X.K .v (rr2 r) p.f) (hb' : ∀ ds d, p.f ds = some d → ∃ b, d = .bl b) (ha : PE X a (tE X.K W .v A)) (hb : PE X b (tE X.K W .v B)) (hm : behindInMarks op b = false) :
    Ok X W (.Compare a [op] [b] pos) (.prim p [A, B]) := by
  refine ⟨okE_cmp ho hp ha hb hm, PT.imp (pt_cmpR ho ha hb hm) fun σ H Q h => ?_⟩
  have h1 : tE X.K W .v (.prim p [A, B]) σ H fun x H1 => ∃ k, x = V.bl k ∧ Q k H1 := by
    obtain ⟨F, m, μ, ρ, S, R, h⟩ := h
    refine ⟨F, m, μ, ρ, S, R, ?_⟩
    unfold evT at h
    have h2 := h.bind
    cases q : ev (.prim p [A, B]) ρ μ with
    | no => rw [q] at h2; exact h2
    | exc c d μ' => rw [q] at h2; exact h2
    | ok x μ' =>
      rw [q] at h2
      obtain ⟨b, rfl⟩ : ∃ b, x = .v (.bl b) := by
        unfold ev at q
        cases q1 : evs [A, B] ρ μ with
        | no => rw [q1] at q; cases q
        | exc c d μ' => rw [q1] at q; cases q
        | ok as μ1 =>
          rw [q1] at q
          have q : ((optR ((drs μ1 as).bind p.f) μ1).bind fun d μ2 => Res.ok (Wp.A.v d) μ2) = .ok x μ' := q
          cases q2 : (drs μ1 as).bind p.f with
          | none => rw [q2] at q; cases q
          | some d =>
            rw [q2] at q
            have q : Res.ok (Wp.A.v d) μ1 = .ok x μ' := q
            cases q
            cases q3 : drs μ' as with
            | none => rw [q3] at q2; cases q2
            | some ds =>
              rw [q3] at q2
              obtain ⟨b, rfl⟩ := hb' ds d q2
              exact ⟨b, rfl⟩
      intro F' H' s S' v r
      have h3 := h2 F' H' s S'
      cases (show Rep X.K F' v (.bl b) from r)
      exact ⟨b, rfl, h3.ok S'⟩
  obtain ⟨F, m, μ, ρ, S, R, h⟩ := tEs_two (tE_prim hp h1)
  refine ⟨F, m, μ, ρ, S, R, h.imp (fun F' H' μ' x s S' q v r1 => ?_) fun _ _ _ _ _ x => x⟩
  obtain ⟨F1, m1, μ1, ρ1, S1, R1, h1⟩ := q v r1
  refine ⟨F1, m1, μ1, ρ1, S1, R1, h1.imp (fun F2 H2 μ2 y s2 S2 q2 w r2 => ?_) fun _ _ _ _ _ x => x⟩
  obtain ⟨x', y', e, h⟩ := q2 w r2
  cases e
  exact h

theorem rep_tru {K : Frag} {F H : Hp} {m : List Addr} {μ : Mu} (S : Sim K F m μ H) {v : V} {x : Wp.A} {b : Bool} (r : RepA K F m v x) (e : (dr μ x).bind tru = some b) : TruV K v H b := by
  cases e1 : dr μ x with
  | none => rw [e1] at e; cases e
  | some d => rw [e1] at e; exact tru_rel S (S.dr r e1) e
theorem ok_and1 (ha : Ok X W a A) : OkW X W (.BoolOp .And [a] pos) A := ⟨pe_one ha.ve, pw_and1 ha.te⟩
theorem ok_or1 (ha : Ok X W a A) : OkW X W (.BoolOp .Or [a] pos) A := ⟨pe_one ha.ve, pw_or1 ha.te⟩
/-- the test's value twice asked -/
theorem evT_and (A B : E) (ρ : Env) (μ : Mu) : evT (.and A B) ρ μ = (evT A ρ μ).bind fun b μ1 => if b then evT B ρ μ1 else .ok false μ1 := by
  unfold evT
  rw [ev]
  cases ev A ρ μ with
  | no => rfl
  | exc c d μ1 => rfl
  | ok x μ1 =>
    show (Res.bind (match (dr μ1 x).bind tru with | some true => ev B ρ μ1 | some false => .ok x μ1 | none => .no) _) = Res.bind (optR ((dr μ1 x).bind tru) μ1) _
    cases q : (dr μ1 x).bind tru with
    | none => rfl
    | some b =>
      cases b with
      | true => rfl
      | false =>
        show optR ((dr μ1 x).bind tru) μ1 = Res.ok false μ1
        rw [q]; rfl
theorem evT_or (A B : E) (ρ : Env) (μ : Mu) : evT (.or A B) ρ μ = (evT A ρ μ).bind fun b μ1 => if b then .ok true μ1 else evT B ρ μ1 := by
  unfold evT
  rw [ev]
  cases ev A ρ μ with
  | no => rfl
  | exc c d μ1 => rfl
  | ok x μ1 =>
    show (Res.bind (match (dr μ1 x).bind tru with | some true => .ok x μ1 | some false => ev B ρ μ1 | none => .no) _) = Res.bind (optR ((dr μ1 x).bind tru) μ1) _
    cases q : (dr μ1 x).bind tru with
    | none => rfl
    | some b =>
      cases b with
      | false => rfl
      | true =>
        show optR ((dr μ1 x).bind tru) μ1 = Res.ok true μ1
        rw [q]; rfl
theorem evT_ife (C A B : E) (ρ : Env) (μ : Mu) : evT (.ife C A B) ρ μ = (evT C ρ μ).bind fun b μ1 => if b then evT A ρ μ1 else evT B ρ μ1 := by
  unfold evT
  rw [ev]
  cases ev C ρ μ with
  | no => rfl
  | exc c d μ1 => rfl
  | ok x μ1 =>
    show (Res.bind (match (dr μ1 x).bind tru with | some true => ev A ρ μ1 | some false => ev B ρ μ1 | none => .no) _) = Res.bind (optR ((dr μ1 x).bind tru) μ1) _
    cases q : (dr μ1 x).bind tru with
    | none => rfl
    | some b => cases b <;> rfl
theorem ok_and {rest : List Expr} (ha : Ok X W a A) (hb : OkW X W (.BoolOp .And (b :: rest) pos) B) : OkW X W (.BoolOp .And (a :: b :: rest) pos) (.and A B) := by
  refine ⟨PE.imp (pe_andT ha.ve hb.ve) fun σ H Q h => ?_, PW.imp (pw_and ha.te hb.te) fun σ H Q h => ?_⟩
  · obtain ⟨F, m, μ, ρ, S, R, h⟩ := h
    unfold ev at h
    refine ⟨F, m, μ, ρ, S, R, (h.bind).imp (fun F' H' μ' x s S' q v r => ?_) fun _ _ _ _ _ x => x⟩
    cases e1 : (dr μ' x).bind tru with
    | none => rw [e1] at q; exact (show False from q).elim
    | some k =>
      rw [e1] at q
      refine ⟨k, rep_tru S' r e1, ?_⟩
      cases k with
      | true => exact ⟨F', m, μ', ρ, S', R.mono s, q⟩
      | false => exact Post.ok q S' v r
  · obtain ⟨F, m, μ, ρ, S, R, h⟩ := h
    rw [evT_and] at h
    refine ⟨F, m, μ, ρ, S, R, (h.bind).imp (fun F' H' μ' k s S' q => ?_) fun _ _ _ _ _ x => x⟩
    cases k with
    | true => exact ⟨F', m, μ', ρ, S', R.mono s, q⟩
    | false => exact Post.ok q S'
theorem ok_or {rest : List Expr} (ha : Ok X W a A) (hb : OkW X W (.BoolOp .Or (b :: rest) pos) B) : OkW X W (.BoolOp .Or (a :: b :: rest) pos) (.or A B) := by
  refine ⟨PE.imp (pe_orT ha.ve hb.ve) fun σ H Q h => ?_, PW.imp (pw_or ha.te hb.te) fun σ H Q h => ?_⟩
  · obtain ⟨F, m, μ, ρ, S, R, h⟩ := h
    unfold ev at h
    refine ⟨F, m, μ, ρ, S, R, (h.bind).imp (fun F' H' μ' x s S' q v r => ?_) fun _ _ _ _ _ x => x⟩
    cases e1 : (dr μ' x).bind tru with
    | none => rw [e1] at q; exact (show False from q).elim
    | some k =>
      rw [e1] at q
      refine ⟨k, rep_tru S' r e1, ?_⟩
      cases k with
      | false => exact ⟨F', m, μ', ρ, S', R.mono s, q⟩
      | true => exact Post.ok q S' v r
  · obtain ⟨F, m, μ, ρ, S, R, h⟩ := h
    rw [evT_or] at h
    refine ⟨F, m, μ, ρ, S, R, (h.bind).imp (fun F' H' μ' k s S' q => ?_) fun _ _ _ _ _ x => x⟩
    cases k with
    | false => exact ⟨F', m, μ', ρ, S', R.mono s, q⟩
    | true => exact Post.ok q S'
/-- a if c else b, as a test -/
theorem pt_ifExp {c : Expr} {tc ta tb : TT} (hc : PT X c tc) (ha : PT X a ta) (hb : PT X b tb) : PT X (.IfExp c a b pos) (fun σ H Q => tc σ H fun k H1 => if k = true then ta σ H1 Q else tb σ H1 Q) := by
  refine ⟨fun pins s σ H Q I h => ?_⟩
  refine isTrue_IfExp (thn (hc.run pins s σ H _ I h) fun d s1 ⟨H1, I1, q1⟩ => ?_)
  cases d with
  | true => exact ha.run pins s1 σ H1 Q I1 q1
  | false => exact hb.run pins s1 σ H1 Q I1 q1
theorem ok_ife {c : Expr} {C : E} (hc : Ok X W c C) (ha : Ok X W a A) (hb : Ok X W b B) : Ok X W (.IfExp c a b pos) (.ife C A B) := by
  refine ⟨PE.imp (pe_ifExp hc.te ha.ve hb.ve) fun σ H Q h => ?_, PT.imp (pt_ifExp hc.te ha.te hb.te) fun σ H Q h => ?_⟩
  · obtain ⟨F, m, μ, ρ, S, R, h⟩ := h
    refine ⟨F, m, μ, ρ, S, R, ?_⟩
    have h2 : Post X.K F m (fun F' H' μ' a => ∀ v, RepR X.K .v F' m μ' H' v a → Q v H') (fun _ H' _ cls dx => W cls dx σ H') ((evT C ρ μ).bind fun b μ1 => if b then ev A ρ μ1 else ev B ρ μ1) := by
      have e : ev (.ife C A B) ρ μ = (evT C ρ μ).bind fun b μ1 => if b then ev A ρ μ1 else ev B ρ μ1 := by
        unfold evT
        rw [ev]
        cases ev C ρ μ with
        | no => rfl
        | exc c d μ1 => rfl
        | ok x μ1 =>
          show (match (dr μ1 x).bind tru with | some true => ev A ρ μ1 | some false => ev B ρ μ1 | none => .no) = Res.bind (optR ((dr μ1 x).bind tru) μ1) _
          cases q : (dr μ1 x).bind tru with
          | none => rfl
          | some b => cases b <;> rfl
      rw [← e]
      exact h
    refine (h2.bind).imp (fun F' H' μ' k s S' q => ?_) fun _ _ _ _ _ x => x
    cases k with
    | true => exact ⟨F', m, μ', ρ, S', R.mono s, q⟩
    | false => exact ⟨F', m, μ', ρ, S', R.mono s, q⟩
  · obtain ⟨F, m, μ, ρ, S, R, h⟩ := h
    rw [evT_ife] at h
    refine ⟨F, m, μ, ρ, S, R, (h.bind).imp (fun F' H' μ' k s S' q => ?_) fun _ _ _ _ _ x => x⟩
    cases k with
    | true => exact ⟨F', m, μ', ρ, S', R.mono s, q⟩
    | false => exact ⟨F', m, μ', ρ, S', R.mono s, q⟩
/-- not -/
theorem prim1 {K : Frag} {new : Md} {p : P} {r : V → Hp → VK → Prop} (h2 : ∀ a b, p.f2 a b = none) (h3 : ∀ a b c, p.f3 a b c = none)
    (h : ∀ (F : Hp) (m : List Addr) (μ : Mu) (H : Hp) (x : V) (a res : D) (Q : VK), Sim K F m μ H → Rn K F H x a → p.f1 a = some res → (∀ F' H' v, Same F F' → Sim K F' m μ H' → RepR K new F' m μ H' v (.v res) → Q v H') → r x H Q) : PrimN K new (rr1 r) p.f := by
  intro F m μ H vs ds res Q S rs e q
  match vs, ds, rs with
  | _, _, .nil => cases e
  | _, _, .cons r1 .nil => exact ⟨_, rfl, h F m μ H _ _ res Q S r1 e q⟩
  | _, _, .cons r1 (.cons r2 .nil) => exact absurd ((h2 _ _).symm.trans e) (by simp)
  | _, _, .cons r1 (.cons r2 (.cons r3 .nil)) => exact absurd ((h3 _ _ _).symm.trans e) (by simp)
  | _, _, .cons r1 (.cons r2 (.cons r3 (.cons r4 rr))) => cases e
theorem prim2 {K : Frag} {new : Md} {p : P} {r : R2} (h1 : ∀ a, p.f1 a = none) (h3 : ∀ a b c, p.f3 a b c = none)
    (h : ∀ (F : Hp) (m : List Addr) (μ : Mu) (H : Hp) (x y : V) (a b res : D) (Q : VK), Sim K F m μ H → Rn K F H x a → Rn K F H y b → p.f2 a b = some res → (∀ F' H' v, Same F F' → Sim K F' m μ H' → RepR K new F' m μ H' v (.v res) → Q v H') → r x y H Q) : PrimN K new (rr2 r) p.f := by
  intro F m μ H vs ds res Q S rs e q
  match vs, ds, rs with
  | _, _, .nil => cases e
  | _, _, .cons r1 .nil => exact absurd ((h1 _).symm.trans e) (by simp)
  | _, _, .cons r1 (.cons r2 .nil) => exact ⟨_, _, rfl, h F m μ H _ _ _ _ res Q S r1 r2 e q⟩
  | _, _, .cons r1 (.cons r2 (.cons r3 .nil)) => exact absurd ((h3 _ _ _).symm.trans e) (by simp)
  | _, _, .cons r1 (.cons r2 (.cons r3 (.cons r4 rr))) => cases e
theorem prim_not {K : Frag} : PrimN K .v (rr1 fun x H Q => ∃ k, TruV K x H k ∧ Q (.bl (!k)) H) P.not.f := by
  refine prim1 (fun _ _ => rfl) (fun _ _ _ => rfl) fun F m μ H x a res Q S r e q => ?_
  have e : (tru a).map (fun b => D.bl (!b)) = some res := e
  cases e1 : tru a with
  | none => rw [e1] at e; cases e
  | some k =>
    rw [e1] at e
    cases e
    exact ⟨k, tru_rel S r e1, q F H _ (Same.refl F) S (.bl _)⟩
theorem evT_not (A : E) (ρ : Env) (μ : Mu) : evT (.prim .not [A]) ρ μ = (evT A ρ μ).bind fun b μ1 => .ok (!b) μ1 := by
  unfold evT
  rw [ev, evs.eq_2]
  cases ev A ρ μ with
  | no => rfl
  | exc c d μ1 => rfl
  | ok x μ1 =>
    show Res.bind (Res.bind (optR ((drs μ1 [x]).bind P.not.f) μ1) _) _ = Res.bind (optR ((dr μ1 x).bind tru) μ1) _
    have e0 : drs μ1 [x] = (dr μ1 x).map fun d => [d] := by
      rw [drs.eq_2]
      cases dr μ1 x <;> rfl
    rw [e0]
    cases e1 : dr μ1 x with
    | none => rfl
    | some d =>
      show Res.bind (Res.bind (optR ((tru d).map fun b => D.bl (!b)) μ1) _) _ = Res.bind (optR (tru d) μ1) _
      cases tru d with
      | none => rfl
      | some b => rfl
theorem ok_not (ha : Ok X W a A) : Ok X W (.UnaryOp .Not a pos) (.prim .not [A]) := by
  refine ⟨PE.imp (pe_notT ha.ve) fun σ H Q h => tE_one (tE_prim prim_not h), PT.imp (pt_not ha.te) fun σ H Q h => ?_⟩
  obtain ⟨F, m, μ, ρ, S, R, h⟩ := h
  rw [evT_not] at h
  refine ⟨F, m, μ, ρ, S, R, (h.bind).imp (fun F' H' μ' k s S' q => ?_) fun _ _ _ _ _ x => x⟩
  exact Post.ok q S'
end
end Wp

set_option Elab.async false
set_option linter.all false
set_option maxRecDepth 100000
set_option autoImplicit true
/-! W1c: displays, calls, freezing. -/
namespace Wp
open PySem PySem.Spec PyProof.Rows L2

section
variable {X : Cx} {W : WX} {e a b : Expr} {es : List Expr} {A B : E} {As : List E} {pos : Pos}

theorem evs_length : ∀ (As : List E) (ρ : Env) (μ μ' : Mu) (as : LA), evs As ρ μ = .ok as μ' → as.length = As.length
  | [], ρ, μ, μ', as, h => by
    rw [evs.eq_1] at h
    cases h
    rfl
  | A :: As, ρ, μ, μ', as, h => by
    rw [evs.eq_2] at h
    cases q : ev A ρ μ with
    | no => rw [q] at h; cases h
    | exc c d μ1 => rw [q] at h; cases h
    | ok x μ1 =>
      rw [q] at h
      have h : ((evs As ρ μ1).bind fun as μ2 => Res.ok (x :: as) μ2) = .ok as μ' := h
      cases q2 : evs As ρ μ1 with
      | no => rw [q2] at h; cases h
      | exc c d μ1 => rw [q2] at h; cases h
      | ok xs μ2 =>
        rw [q2] at h
        have h : Res.ok (x :: xs) μ2 = .ok as μ' := h
        cases h
        rw [List.length_cons, List.length_cons, evs_length As ρ μ1 _ xs q2]
/-- .. what is known of the arguments behind evs -/
theorem Post.withEq {α : Type} {K : Frag} {F : Hp} {m : List Addr} {r : Res α} {k : Hp → Hp → Mu → α → Prop} {x : Hp → Hp → Mu → Value → Option Addr → Prop} (h : Post K F m k x r) : Post K F m (fun F' H' μ' a => k F' H' μ' a ∧ r = .ok a μ') x r := by
  cases r with
  | ok a μ' => exact fun F' H' s S => ⟨h F' H' s S, rfl⟩
  | exc c d μ' => exact h
  | no => exact h
theorem sl_eq : SL = sizeLine := by rw [sizeLine_eq]; rfl
theorem okE_tup {k1 : Nat} (h : PA X es (tEs X.K W As)) (hl : As.length ≤ 1000) : PE X (.Tuple es k1 pos) (tE X.K W .v (.tup As)) := by
  refine PE.imp (pe_tup h) fun σ H Q h => ?_
  obtain ⟨F, m, μ, ρ, S, R, h⟩ := h
  unfold ev at h
  refine ⟨F, m, μ, ρ, S, R, (h.bind).withEq.imp (fun F' H' μ' as s S' q vs rs => ?_) fun _ _ _ _ _ x => x⟩
  obtain ⟨q, eq⟩ := q
  have hz : vs.length = As.length := by rw [← evs_length As ρ μ μ' as eq]; exact Paired.length rs
  refine ⟨Nat.le_of_lt (small1000 (by omega)), fun p hp => ?_⟩
  cases e1 : vals as with
  | none => rw [e1] at q; exact (show False from q).elim
  | some ds =>
    rw [e1] at q
    have rd := vals_rel rs e1
    obtain ⟨sF, S2⟩ := S'.frozen (o := .tup vs) hp
    exact q _ _ sF S2 _ (.tup (.of upd_same) (rd.mono sF))
theorem okT_tup {k1 : Nat} (h : PA X es (tEs X.K W As)) (hl : As.length ≤ 1000) : PE X (.Tuple es k1 pos) (tE X.K W .t (.tup As)) := by
  refine PE.imp (pe_tup h) fun σ H Q h => ?_
  obtain ⟨F, m, μ, ρ, S, R, h⟩ := h
  unfold ev at h
  refine ⟨F, m, μ, ρ, S, R, (h.bind).withEq.imp (fun F' H' μ' as s S' q vs rs => ?_) fun _ _ _ _ _ x => x⟩
  obtain ⟨q, eq⟩ := q
  have hz : vs.length = As.length := by rw [← evs_length As ρ μ μ' as eq]; exact Paired.length rs
  refine ⟨Nat.le_of_lt (small1000 (by omega)), fun p hp => ?_⟩
  cases e1 : vals as with
  | none => rw [e1] at q; exact (show False from q).elim
  | some ds =>
    rw [e1] at q
    have rd := vals_rel rs e1
    obtain ⟨sF, S2⟩ := S'.frozen (o := .tup vs) hp
    exact q _ _ sF S2 _ ⟨p, vs, rfl, upd_same, rd.mono sF⟩
theorem okN_lst (h : PA X es (tEs X.K W As)) (hl : As.length ≤ 1000) : PE X (.List es pos) (tE X.K W .n (.lst As)) := by
  refine PE.imp (pe_lst h) fun σ H Q h => ?_
  obtain ⟨F, m, μ, ρ, S, R, h⟩ := h
  unfold ev at h
  refine ⟨F, m, μ, ρ, S, R, (h.bind).withEq.imp (fun F' H' μ' as s S' q vs rs => ?_) fun _ _ _ _ _ x => x⟩
  obtain ⟨q, eq⟩ := q
  have hz : vs.length = As.length := by rw [← evs_length As ρ μ μ' as eq]; exact Paired.length rs
  refine ⟨Nat.le_of_lt (small1000 (by omega)), fun p hp => ?_⟩
  cases e1 : vals as with
  | none => rw [e1] at q; exact (show False from q).elim
  | some ds =>
    rw [e1] at q
    have rd := vals_rel rs e1
    exact q _ _ (Same.refl _) (S'.laid hp) _ ⟨p, vs, rfl, upd_same, rd, S'.sub.free hp, fun i c e1 e2 => S'.notCell hp i c e1 e2⟩

/-! ### freezing a cell -/
theorem Sim.freezeC {K : Frag} {F H : Hp} {m : List Addr} {μ : Mu} {n : Nat} {a : Addr} {fz : Bool} {xs : List D} (S : Sim K F m μ H) (e1 : m[n]? = some a) (e2 : μ[n]? = some ⟨fz, .lst xs⟩) :
    ∃ F', Same F F' ∧ Sim K F' m (μ.set n ⟨true, .lst xs⟩) H ∧ Rep K F' (.ref a) (.lst xs) := by
  have hc := S.cell n a _ e1 e2
  have hn : n < μ.length := (List.getElem?_eq_some_iff.mp e2).1
  have inj' : ∀ (i j : Nat) b c c', m[i]? = some b → m[j]? = some b → (μ.set n ⟨true, .lst xs⟩)[i]? = some c → (μ.set n ⟨true, .lst xs⟩)[j]? = some c' → c.live → c'.live → i = j := by
    intro i j b c c' h1 h2 h3 h4 l1 l2
    have old : ∀ (i : Nat) c, (μ.set n ⟨true, .lst xs⟩)[i]? = some c → c.live → ∃ c', μ[i]? = some c' ∧ c'.live := by
      intro i c h l
      by_cases hi : n = i
      · subst hi
        exact ⟨_, e2, trivial⟩
      · rw [List.getElem?_set_ne hi] at h
        exact ⟨c, h, l⟩
    obtain ⟨d, h5, l3⟩ := old i c h3 l1
    obtain ⟨d', h6, l4⟩ := old j c' h4 l2
    exact S.inj i j b d d' h1 h2 h5 h6 l3 l4
  cases fz with
  | true =>
    obtain ⟨vs, h1, h2⟩ := hc
    refine ⟨F, Same.refl F, ⟨by rw [List.length_set]; exact S.len, S.sub, fun i b c h3 h4 => ?_, inj'⟩, .lst h1 h2⟩
    by_cases hi : n = i
    · subst hi
      rw [List.getElem?_set_self hn] at h4
      cases h4
      rw [e1] at h3
      cases h3
      exact ⟨vs, h1, h2⟩
    · rw [List.getElem?_set_ne hi] at h4
      exact S.cell i b c h3 h4
  | false =>
    obtain ⟨vs, h1, h2, h3⟩ := hc
    have sF : Same F (upd F a (.lst vs)) := same_upd h3
    refine ⟨upd F a (.lst vs), sF, ⟨by rw [List.length_set]; exact S.len, fun b x e => ?_, fun i b c h4 h5 => ?_, inj'⟩, .lst upd_same (h2.mono sF)⟩
    · by_cases hb : b = a
      · subst hb
        rw [upd_same] at e
        cases e
        exact h1
      · rw [upd_ne hb] at e
        exact S.sub _ _ e
    · by_cases hi : n = i
      · subst hi
        rw [List.getElem?_set_self hn] at h5
        cases h5
        rw [e1] at h4
        cases h4
        exact ⟨vs, upd_same, h2.mono sF⟩
      · rw [List.getElem?_set_ne hi] at h5
        by_cases hl : c.live
        · have hba : b ≠ a := fun z => by
            subst z
            exact hi (S.inj i n b c _ h4 e1 h5 e2 hl trivial).symm
          exact (S.cell i b c h4 h5).mono sF (fun x e => e) fun z => by rw [upd_ne hba]; exact z
        · obtain ⟨fz, c⟩ := c
          cases c with
          | dead => trivial
          | _ => exact (hl trivial).elim
theorem okE_fz (h : PE X e (tE X.K W .v A)) : PE X e (tE X.K W .v (.fz A)) := by
  refine PE.imp h fun σ H Q h => ?_
  obtain ⟨F, m, μ, ρ, S, R, h⟩ := h
  unfold ev at h
  refine ⟨F, m, μ, ρ, S, R, (h.bind).imp (fun F' H' μ' a s S' q v r => ?_) fun _ _ _ _ _ x => x⟩
  cases a with
  | v d => exact Post.ok q S' v r
  | t d => exact Post.ok q S' v (RepT.rep r)
  | c n =>
    obtain ⟨a, e1, rfl⟩ := r
    cases e2 : μ'[n]? with
    | none =>
      dsimp only at q
      rw [e2] at q
      exact (show False from q).elim
    | some c =>
      dsimp only at q
      rw [e2] at q
      obtain ⟨fz, c⟩ := c
      cases c with
      | lst xs =>
        obtain ⟨F2, s2, S2, r2⟩ := S'.freezeC e1 e2
        exact q F2 H' s2 S2 _ r2
      | _ => exact (show False from q).elim

/-! ### calls of built-ins -/
theorem okE_callB {x : Str} {id : String} {r : List V → Hp → VK → Prop} {p : P} {new : Md} {ps : Pos} (hc : CallR X (.builtin id) r) (hp : PrimN X.K new r p.f) (hg : Gl X x) (hm : X.mg x = none) (hv : bootBuiltins x = some (.builtin id))
    (ha : PA X (e :: es) (tEs X.K W As)) (hn : x ≠ "__name__") (hdb : (x == ("__debug__" : Str)) = false) (he : starEach (e :: es) X.env = (false, eval e X.env) :: starEach es X.env) (hpl : (backTo pos (starEach es X.env)).any (·.1) = false) :
    PE X (.Call (.Name x ps) (e :: es) [] pos) (tE X.K W new (.prim p As)) := PE.imp (pe_callB hc hg hm hv ha hn hdb he hpl) fun _ _ _ h => tE_prim hp h
theorem okE_callTy {x : Str} {T : String} {r : List V → Hp → VK → Prop} {p : P} {new : Md} {ps : Pos} (hc : CallR X (.type T) r) (hp : PrimN X.K new r p.f) (hg : Gl X x) (hm : X.mg x = none) (hv : bootBuiltins x = some (.type T))
    (ha : PA X (e :: es) (tEs X.K W As)) (hn : x ≠ "__name__") (hdb : (x == ("__debug__" : Str)) = false) (he : starEach (e :: es) X.env = (false, eval e X.env) :: starEach es X.env) (hpl : (backTo pos (starEach es X.env)).any (·.1) = false) :
    PE X (.Call (.Name x ps) (e :: es) [] pos) (tE X.K W new (.prim p As)) := PE.imp (pe_callTy hc hg hm hv ha hn hdb he hpl) fun _ _ _ h => tE_prim hp h
theorem okE_callF {x : Str} {id : String} {r : List V → Hp → VK → Prop} {p : P} {new : Md} {ps : Pos} (hc : CallR X (.builtin id) r) (hp : PrimN X.K new r p.f) (hg : Gl X x) (hm : X.mg x = some (.builtin id))
    (ha : PA X (e :: es) (tEs X.K W As)) (hdb : (x == ("__debug__" : Str)) = false) (he : starEach (e :: es) X.env = (false, eval e X.env) :: starEach es X.env) (hpl : (backTo pos (starEach es X.env)).any (·.1) = false) :
    PE X (.Call (.Name x ps) (e :: es) [] pos) (tE X.K W new (.prim p As)) := PE.imp (pe_callBfun hc hg hm ha hdb he hpl) fun _ _ _ h => tE_prim hp h

/-! ### calls of defs -/
/-- a def's promise: it computes F -/
def spOf (K : Frag) (n : Nat) (new : Md) (F : Fn) : Sp := fun vs H Q E => vs.length = n ∧ ∃ Fz m μ as, Sim K Fz m μ H ∧ RepAs K Fz m vs as ∧
  Post K Fz m (fun F' H' μ' d => ∀ v, RepR K new F' m μ' H' v (.v d) → Q v H') (fun _ H' _ cls dx => E cls dx H') (F as μ)
/-- the values by the permutation -/
def pg {α : Type} (perm : List Nat) (us ws : List α) : List α := perm.filterMap fun i => (us ++ ws)[i]?
structure FnAt (P : Program) (w : World) (K : Frag) (mg : Str → Option Value) (base : Heap) (k : Nat) (x : Str) (n : Nat) (new : Md) (F : Fn) (kw : List (Nat × List Str × List Nat)) : Prop where
  at_ : ∃ f fd ps, mg x = some (.ref f) ∧ PySem.W.keepIn K (.ref f) = true ∧ Binds K fd ps [] ∧ (∀ c ∈ kw, KBn K fd ps c.1 c.2.1 (pg c.2.2) (pg c.2.2)) ∧ FnOk P w K mg base (L2.CX P w) k f fd ps (spOf K n new F)
theorem tE_call {K : Frag} {f : String} {F : Fn} {new : Md} {σ : L2.St} {H : Hp} {Q : VK} {n : Nat} (hn : As.length = n) (h : tE K W new (.call f F As) σ H Q) :
    tEs K W As σ H fun vs H1 => spOf K n new F vs H1 Q (WE W σ) := by
  obtain ⟨Fz, m, μ, ρ, S, R, h⟩ := h
  unfold ev at h
  refine ⟨Fz, m, μ, ρ, S, R, (h.bind).withEq.imp (fun F' H' μ' as s S' q vs rs => ?_) fun _ _ _ _ _ x => x⟩
  obtain ⟨q, eq⟩ := q
  refine ⟨by rw [← hn, ← evs_length As ρ μ μ' as eq]; exact Paired.length rs, F', m, μ', as, S', rs, ?_⟩
  refine (q.bind).imp (fun F2 H2 μ2 d s2 S2 q2 v r => ?_) fun _ _ _ _ _ x => x
  exact Post.ok q2 S2 v r
theorem okE_call {x : Str} {f : String} {F : Fn} {n k : Nat} {new : Md} {ps : Pos} {kw : List (Nat × List Str × List Nat)} (hF : FnAt X.prog X.w X.K X.mg X.base k x n new F kw) (hr : Room k X.A) (hg : Gl X x) (tk : Takes X W) (hn : As.length = n)
    (ha : PA X (e :: es) (tEs X.K W As)) (hdb : (x == ("__debug__" : Str)) = false) (he : starEach (e :: es) X.env = (false, eval e X.env) :: starEach es X.env) (hpl : (backTo pos (starEach es X.env)).any (·.1) = false) :
    PE X (.Call (.Name x ps) (e :: es) [] pos) (tE X.K W new (.call f F As)) := by
  obtain ⟨fa, fd, pn, hm, hk, hb, _, G⟩ := hF.at_
  exact PE.imp (pe_callS G hr hg hm hk hb (fun σ => passAt tk σ) ha hdb he hpl) fun σ H Q h => tE_call hn h
theorem okE_call0 {x : Str} {f : String} {F : Fn} {k : Nat} {new : Md} {ps : Pos} {kw : List (Nat × List Str × List Nat)} (hF : FnAt X.prog X.w X.K X.mg X.base k x 0 new F kw) (hr : Room k X.A) (hg : Gl X x) (tk : Takes X W) (hdb : (x == ("__debug__" : Str)) = false) :
    PE X (.Call (.Name x ps) [] [] pos) (tE X.K W new (.call f F [])) := by
  obtain ⟨fa, fd, pn, hm, hk, hb, _, G⟩ := hF.at_
  refine ⟨fun pins s σ H Q I h => ?_⟩
  refine wpAny_Call_Name_kw (ld_glob I hg hm ?_ hdb)
  obtain ⟨Fz, m, μ, ρ, S, R, h⟩ := tE_call (As := []) rfl h
  have h := Post.ok h S [] .nil
  exact PySem.W.callWith_K0 I.kIn hk (run_fnS (us := []) G hr hb (passAt tk σ) I .nil h)
end
end Wp

set_option Elab.async false
set_option linter.all false
set_option maxRecDepth 100000
set_option autoImplicit true
/-! W1d: statements. -/
namespace Wp
open PySem PySem.Spec PyProof.Rows L2

/-- behind a statement -/
def PostS (K : Frag) (W : WX) (n0 : Nat) (new : Md) (F : Hp) (m : List Addr) (D : Ends) : Out → Prop
  | .nx ρ' μ' => ∀ F' m' H' σ', Same F F' → m'.take n0 = m.take n0 → Sim K F' m' μ' H' → RepS K F' m' σ' ρ' → D.nx σ' H'
  | .brk ρ' μ' => ∀ F' m' H' σ', Same F F' → m'.take n0 = m.take n0 → Sim K F' m' μ' H' → RepS K F' m' σ' ρ' → D.bk σ' H'
  | .cnt ρ' μ' => ∀ F' m' H' σ', Same F F' → m'.take n0 = m.take n0 → Sim K F' m' μ' H' → RepS K F' m' σ' ρ' → D.ct σ' H'
  | .ret d μ' => ∀ F' H' v, Same F F' → Sim K F' (m.take n0) (μ'.take n0) H' → RepR K new F' (m.take n0) (μ'.take n0) H' v (.v d) → D.rt v H'
  | .exc c d ρ' μ' => ∀ F' m' H' σ' cls dx, Same F F' → m'.take n0 = m.take n0 → Sim K F' m' μ' H' → RepS K F' m' σ' ρ' → ExcAt K F' H' c d cls dx → W cls dx σ' H'
  | .no => False
theorem PostS.weak {K : Frag} {W : WX} {n0 : Nat} {new : Md} {F F1 : Hp} {m m1 : List Addr} {D : Ends} {o : Out} (s : Same F F1) (e : m1.take n0 = m.take n0) (h : PostS K W n0 new F m D o) : PostS K W n0 new F1 m1 D o := by
  cases o with
  | nx ρ μ => exact fun F' m' H' σ' s' e' S R => h F' m' H' σ' (s.trans s') (e'.trans e) S R
  | brk ρ μ => exact fun F' m' H' σ' s' e' S R => h F' m' H' σ' (s.trans s') (e'.trans e) S R
  | cnt ρ μ => exact fun F' m' H' σ' s' e' S R => h F' m' H' σ' (s.trans s') (e'.trans e) S R
  | ret d μ =>
    intro F' H' v s' S R
    rw [e] at S R
    exact h F' H' v (s.trans s') S R
  | exc c d ρ μ => exact fun F' m' H' σ' cls dx s' e' S R x => h F' m' H' σ' cls dx (s.trans s') (e'.trans e) S R x
  | no => exact h

def tS (K : Frag) (W : WX) (n0 : Nat) (new : Md) (s : S) : TS := fun D σ H => ∃ F m μ ρ, Sim K F m μ H ∧ RepS K F m σ ρ ∧ PostS K W n0 new F m D (ex n0 s ρ μ)
def tSs (K : Frag) (W : WX) (n0 : Nat) (new : Md) (s : List S) : TS := fun D σ H => ∃ F m μ ρ, Sim K F m μ H ∧ RepS K F m σ ρ ∧ PostS K W n0 new F m D (exs n0 s ρ μ)

/-- from an expression's computation to the statement's -/
theorem post_st {α : Type} {K : Frag} {W : WX} {n0 : Nat} {new : Md} {F : Hp} {m : List Addr} {D : Ends} {σ : L2.St} {ρ : Env} {r : Res α} {k : α → Mu → Out} (R : RepS K F m σ ρ) (h : PostS K W n0 new F m D (r.st ρ k)) :
    Post K F m (fun F' H' μ' a => PostS K W n0 new F' m D (k a μ')) (fun _ H' _ cls dx => W cls dx σ H') r := by
  cases r with
  | ok a μ' => exact fun F' H' s S => PostS.weak s rfl h
  | exc c d μ' => exact fun F' H' cls dx s S x => h F' m H' σ cls dx s rfl S (R.mono s) x
  | no => exact h

section
variable {X : Cx} {W : WX} {n0 : Nat} {new : Md} {e a b : Expr} {A B : E} {pos : Pos}

theorem okS_nil : PSs X [] (tSs X.K W n0 new []) := by
  refine PSs.imp pss_nil fun D σ H h => ?_
  obtain ⟨F, m, μ, ρ, S, R, h⟩ := h
  rw [exs] at h
  exact h F m H σ (Same.refl F) rfl S R
theorem okS_cons {st : Stmt} {rest : List Stmt} {s : S} {r : List S} (h1 : PS X st (tS X.K W n0 new s)) (h2 : PSs X rest (tSs X.K W n0 new r)) : PSs X (st :: rest) (tSs X.K W n0 new (s :: r)) := by
  refine PSs.imp (pss_cons h1 h2) fun D σ H h => ?_
  obtain ⟨F, m, μ, ρ, S, R, h⟩ := h
  rw [exs] at h
  refine ⟨F, m, μ, ρ, S, R, ?_⟩
  cases q : ex n0 s ρ μ with
  | nx ρ' μ' =>
    rw [q] at h
    have h : PostS X.K W n0 new F m D (exs n0 r ρ' μ') := h
    exact fun F' m' H' σ' s' e' S' R' => ⟨F', m', μ', ρ', S', R', PostS.weak s' e' h⟩
  | brk ρ' μ' => rw [q] at h; exact h
  | cnt ρ' μ' => rw [q] at h; exact h
  | ret d μ' => rw [q] at h; exact h
  | exc c d ρ' μ' => rw [q] at h; exact h
  | no => rw [q] at h; exact h
theorem okS_pas : PS X (.Pass pos) (tS X.K W n0 new .pas) := by
  refine PS.imp ps_pass fun D σ H h => ?_
  obtain ⟨F, m, μ, ρ, S, R, h⟩ := h
  rw [ex] at h
  exact h F m H σ (Same.refl F) rfl S R
theorem okS_brk : PS X (.Break pos) (tS X.K W n0 new .brk) := by
  refine PS.imp ps_break fun D σ H h => ?_
  obtain ⟨F, m, μ, ρ, S, R, h⟩ := h
  rw [ex] at h
  exact h F m H σ (Same.refl F) rfl S R
theorem okS_cnt : PS X (.Continue pos) (tS X.K W n0 new .cnt) := by
  refine PS.imp ps_continue fun D σ H h => ?_
  obtain ⟨F, m, μ, ρ, S, R, h⟩ := h
  rw [ex] at h
  exact h F m H σ (Same.refl F) rfl S R
theorem okS_xp (he : PE X e (tE X.K W .v A)) (hs : swapsWith e none pos.line X.env = pure false) : PS X (.Expr e pos) (tS X.K W n0 new (.xp A)) := by
  refine PS.imp (ps_expr he hs) fun D σ H h => ?_
  obtain ⟨F, m, μ, ρ, S, R, h⟩ := h
  rw [ex] at h
  exact ⟨F, m, μ, ρ, S, R, (post_st R h).imp (fun F' H' μ' a s S' q v r => q F' m H' σ (Same.refl _) rfl S' (R.mono s)) fun _ _ _ _ _ x => x⟩
theorem okS_if {c : Expr} {C : E} {p q : List Stmt} {s t : List S} (hc : PT X c (tT X.K W C)) (hp : PSs X p (tSs X.K W n0 new s)) (hq : PSs X q (tSs X.K W n0 new t)) : PS X (.If c p q pos) (tS X.K W n0 new (.ife C s t)) := by
  refine PS.imp (ps_if hc hp hq) fun D σ H h => ?_
  obtain ⟨F, m, μ, ρ, S, R, h⟩ := h
  rw [ex] at h
  refine ⟨F, m, μ, ρ, S, R, (post_st R h).imp (fun F' H' μ' k s S' q => ?_) fun _ _ _ _ _ x => x⟩
  cases k with
  | true => exact ⟨F', m, μ', ρ, S', R.mono s, q⟩
  | false => exact ⟨F', m, μ', ρ, S', R.mono s, q⟩
/-- the first cells alone -/
theorem Sim.take {K : Frag} {F H : Hp} {m : List Addr} {μ : Mu} (S : Sim K F m μ H) (n : Nat) : Sim K F (m.take n) (μ.take n) H := by
  have low : ∀ {α : Type} {l : List α} {i : Nat} {x : α}, (l.take n)[i]? = some x → l[i]? = some x := fun {α l i x} h => by
    rw [List.getElem?_take] at h
    split at h
    · exact h
    · cases h
  exact ⟨by rw [List.length_take, List.length_take, S.len], S.sub, fun i a c e1 e2 => S.cell i a c (low e1) (low e2), fun i j a c c' e1 e2 e3 e4 => S.inj i j a c c' (low e1) (low e2) (low e3) (low e4)⟩
theorem RepN.take {K : Frag} {F : Hp} {m : List Addr} {μ : Mu} {H : Hp} {v : V} {d : D} (n : Nat) (r : RepN K F m μ H v d) : RepN K F (m.take n) (μ.take n) H v d := by
  have low : ∀ {α : Type} {l : List α} {i : Nat} {x : α}, (l.take n)[i]? = some x → l[i]? = some x := fun {α l i x} h => by
    rw [List.getElem?_take] at h
    split at h
    · exact h
    · cases h
  cases d with
  | lst ds =>
    obtain ⟨a, vs, e, h1, h2, h3, h4⟩ := r
    exact ⟨a, vs, e, h1, h2, h3, fun i c e1 e2 => h4 i c (low e1) (low e2)⟩
  | _ => exact r
theorem okS_ret (he : PE X e (tE X.K W new A)) : PS X (.Return (some e) pos) (tS X.K W n0 new (.ret A)) := by
  refine PS.imp (ps_ret he) fun D σ H h => ?_
  obtain ⟨F, m, μ, ρ, S, R, h⟩ := h
  rw [ex] at h
  refine ⟨F, m, μ, ρ, S, R, (post_st R h).imp (fun F' H' μ' a s S' q v r => ?_) fun _ _ _ _ _ x => x⟩
  cases a with
  | v d =>
    refine q F' H' v (Same.refl _) (S'.take n0) ?_
    cases new with
    | v => exact r
    | n => exact RepN.take n0 r
    | t => exact r
  | t d =>
    cases new with
    | v => exact q F' H' v (Same.refl _) (S'.take n0) (RepT.rep r)
    | n => exact (show False from r).elim
    | t => exact (show False from r).elim
  | c n => exact (show False from q).elim
/-- a local list handed back -/
theorem okS_retC {i : Nat} {x : Str} {ps : Pos} (hN : X.N[i]? = some x) (hv : Vis X.env.scope x) (hd : (x == ("__debug__" : Str)) = false) (hcd : (x == ("__classdict__" : Str)) = false) (new : Md) :
    PS X (.Return (some (.Name x ps)) pos) (tS X.K W n0 new (.retC i)) := by
  refine PS.imp (ps_ret (pe_var hN hv hd hcd)) fun D σ H h => ?_
  obtain ⟨F, m, μ, ρ, S, R, h⟩ := h
  rw [ex] at h
  cases e1 : ρ[i]? with
  | none => rw [e1] at h; exact (show False from h).elim
  | some o =>
    cases o with
    | none => rw [e1] at h; exact (show False from h).elim
    | some y =>
      cases y with
      | v d => rw [e1] at h; exact (show False from h).elim
      | t d => rw [e1] at h; exact (show False from h).elim
      | c n =>
        rw [e1] at h
        dsimp only at h
        by_cases hn : n0 ≤ n
        · rw [if_pos hn] at h
          obtain ⟨v, e2, a, e3, rfl⟩ := R.get i _ e1
          refine ⟨_, e2, ?_⟩
          cases e4 : μ[n]? with
          | none => rw [e4] at h; exact (show False from h).elim
          | some c =>
            obtain ⟨fz, c⟩ := c
            rw [e4] at h
            cases fz with
            | true => exact (show False from h).elim
            | false =>
              cases c with
              | lst xs =>
                have hc := S.cell n a _ e3 e4
                obtain ⟨vs, h1, h2, h3⟩ := hc
                have rn : RepN X.K F (m.take n0) (μ.take n0) H (.ref a) (.lst xs) := by
                  refine ⟨a, vs, rfl, h1, h2, h3, fun j c e5 e6 l => ?_⟩
                  rw [List.getElem?_take] at e5 e6
                  split at e5
                  · rename_i hj
                    rw [if_pos hj] at e6
                    have := S.inj j n a c _ e5 e3 e6 e4 l trivial
                    omega
                  · cases e5
                have h : PostS X.K W n0 new F m D (.ret (.lst xs) μ) := h
                cases new with
                | n => exact h F H _ (Same.refl F) (S.take n0) rn
                | _ =>
                  obtain ⟨F2, s2, S2, r2⟩ := S.freezeC e3 e4
                  have S3 := S2.take n0
                  have et : (μ.set n ⟨true, .lst xs⟩).take n0 = μ.take n0 := by
                    rw [List.take_set]
                    exact List.set_eq_of_length_le (by rw [List.length_take]; omega)
                  rw [et] at S3
                  exact h F2 H _ s2 S3 r2
              | _ => exact (show False from h).elim
        · rw [if_neg hn] at h
          exact (show False from h).elim
end
end Wp

set_option Elab.async false
set_option linter.all false
set_option maxRecDepth 100000
set_option autoImplicit true
/-! W1e: assignments. -/
namespace Wp
open PySem PySem.Spec PyProof.Rows L2

section
variable {X : Cx} {W : WX} {n0 : Nat} {new : Md} {e a b : Expr} {A B : E} {pos : Pos}

theorem RepS.set {K : Frag} {F : Hp} {m : List Addr} {σ : L2.St} {ρ : Env} (R : RepS K F m σ ρ) {i : Nat} {v : V} {x : Wp.A} (r : RepA K F m v x) (hi : i < ρ.length) : RepS K F m (σ.set i (some v)) (ρ.set i (some x)) := by
  refine ⟨by rw [List.length_set, List.length_set]; exact R.len, fun j y e => ?_⟩
  by_cases h : i = j
  · subst h
    rw [List.getElem?_set_self hi] at e
    cases e
    exact ⟨v, by rw [List.getElem?_set_self (by rw [R.len]; exact hi)], r⟩
  · rw [List.getElem?_set_ne h] at e ⊢
    exact R.get j y e

mutual
/-- the slots of a target -/
def T.slots : T → List Nat
  | .n i => [i]
  | .t ts => T.slotss ts
def T.slotss : List T → List Nat
  | [] => []
  | u :: us => T.slots u ++ T.slotss us
end
/-- the other slots stay -/
def Oth (is : List Nat) (σ σ' : L2.St) : Prop := σ'.length = σ.length ∧ ∀ j, j ∉ is → σ'[j]? = σ[j]?
theorem Oth.refl (is : List Nat) (σ : L2.St) : Oth is σ σ := ⟨rfl, fun _ _ => rfl⟩
/-- a target's reading: what asg does -/
def OkG (P : Cx → Prop) (K : Frag) (tg : Expr) (t : T) : Prop := ∃ g, (∀ X, P X → PG X tg g) ∧
  ∀ (F : Hp) (m : List Addr) (μ : Mu) (H : Hp) (σ : L2.St) (ρ ρ' : Env) (v : V) (d : D) (Q : L2.St → Hp → Prop), Sim K F m μ H → RepS K F m σ ρ → Rep K F v d → asg t d ρ = some ρ' →
    (∀ σ', RepS K F m σ' ρ' → Oth t.slots σ σ' → Q σ' H) → g v σ H Q
def OkGs (P : Cx → Prop) (K : Frag) (tgs : List Expr) (ts : List T) : Prop := ∃ g, (∀ X, P X → PGs X tgs g) ∧
  ∀ (F : Hp) (m : List Addr) (μ : Mu) (H : Hp) (σ : L2.St) (ρ ρ' : Env) (vs : List V) (ds : List D) (Q : L2.St → Hp → Prop), Sim K F m μ H → RepS K F m σ ρ → Reps K F vs ds → asgs ts ds ρ = some ρ' →
    (∀ σ', RepS K F m σ' ρ' → Oth (T.slotss ts) σ σ' → Q σ' H) → g vs σ H Q
theorem okG_name {P : Cx → Prop} {K : Frag} {i : Nat} {x : Str} (h : ∀ X, P X → X.N.Nodup ∧ X.N[i]? = some x ∧ Loc X.env.scope x ∧ (X.fn x = true ∨ X.env.scope.names.lookup x = some .local)) : OkG P K (.Name x pos) (.n i) := by
  refine ⟨_, fun X hX => pg_name (h X hX).1 (h X hX).2.1 (h X hX).2.2.1 (h X hX).2.2.2, fun F m μ H σ ρ ρ' v d Q S R r e q => ?_⟩
  unfold asg at e
  split at e
  · rename_i hl
    cases e
    refine q _ (R.set r hl) ⟨List.length_set, fun j hj => ?_⟩
    have hij : i ≠ j := fun z => hj (by rw [z, T.slots]; simp)
    exact List.getElem?_set_ne hij
  · cases e
theorem okGs_nil {P : Cx → Prop} {K : Frag} : OkGs P K [] [] := by
  refine ⟨_, fun X _ => pgs_nil, fun F m μ H σ ρ ρ' vs ds Q S R r e q => ?_⟩
  cases r with
  | nil =>
    cases e
    exact ⟨rfl, q σ R (Oth.refl _ _)⟩
  | cons _ _ => cases e
theorem okGs_cons {P : Cx → Prop} {K : Frag} {t : T} {ts : List T} {tgs : List Expr} (h1 : OkG P K e t) (h2 : OkGs P K tgs ts) (hs : ∀ X, P X → (assignEach (e :: tgs) X.env).map (·.2) = assign e X.env :: (assignEach tgs X.env).map (·.2)) : OkGs P K (e :: tgs) (t :: ts) := by
  obtain ⟨g1, p1, k1⟩ := h1
  obtain ⟨g2, p2, k2⟩ := h2
  refine ⟨_, fun X hX => pgs_cons (p1 X hX) (p2 X hX) (hs X hX), fun F m μ H σ ρ ρ' vs ds Q S R r e q => ?_⟩
  cases r with
  | nil => cases e
  | cons r rs =>
    rename_i v d vs ds
    unfold asgs at e
    cases e1 : asg t d ρ with
    | none => rw [e1] at e; cases e
    | some ρ1 =>
      rw [e1] at e
      refine ⟨v, vs, rfl, k1 F m μ H σ ρ ρ1 v d _ S R r e1 fun σ1 R1 o1 => k2 F m μ H σ1 ρ1 ρ' vs ds Q S R1 rs e fun σ2 R2 o2 => q σ2 R2 ⟨o2.1.trans o1.1, fun j hj => ?_⟩⟩
      rw [T.slotss, List.mem_append, not_or] at hj
      exact (o2.2 j hj.2).trans (o1.2 j hj.1)
theorem asgs_len : ∀ {ts : List T} {ds : List D} {ρ ρ' : Env}, asgs ts ds ρ = some ρ' → ds.length = ts.length
  | [], [], _, _, _ => rfl
  | [], _ :: _, _, _, e => by cases e
  | _ :: _, [], _, _, e => by cases e
  | t :: ts, d :: ds, ρ, ρ', e => by
    unfold asgs at e
    cases e1 : asg t d ρ with
    | none => rw [e1] at e; cases e
    | some ρ1 =>
      rw [e1] at e
      exact congrArg Nat.succ (asgs_len e)
theorem okG_tup {P : Cx → Prop} {K : Frag} {ts : List T} {tgs : List Expr} {k : Nat} (hK : ∀ X, P X → X.K = K) (hc : ∀ X, P X → X.calm = true) (h : OkGs P K tgs ts) (hn : ∀ X, P X → (assignEach tgs X.env).length = ts.length) (hst : ∀ X, P X → (assignEach tgs X.env).findIdx? (·.1) = none) : OkG P K (.Tuple tgs k pos) (.t ts) := by
  obtain ⟨g, p, kk⟩ := h
  refine ⟨_, fun X hX => by
    have z := pg_tup (n := ts.length) (k := k) (pos := pos) (hc X hX) (p X hX) (hn X hX) (hst X hX)
    rw [hK X hX] at z
    exact z, fun F m μ H σ ρ ρ' v d Q S R r e q => ?_⟩
  cases d with
  | tup ds =>
    cases r with
    | tup h1 h2 =>
      rename_i a vs
      have e : asgs ts ds ρ = some ρ' := by rw [asg] at e; exact e
      exact ⟨a, vs, rfl, same_tup S.sub h1, by rw [h2.length]; exact asgs_len e, kk F m μ H σ ρ ρ' vs ds Q S R h2 e q⟩
  | _ => simp [asg] at e

/-- target = e -/
theorem okS_set {tg : Expr} {t : T} (he : PE X e (tE X.K W .v A)) (hg : OkG (· = X) X.K tg t) (hs : swapsWithSole [tg] e pos.line X.env = pure false) (hw : swappedStores [tg] e X.env = pure none) (h1 : (assignEach [tg] X.env).map (·.2) = [assign tg X.env]) :
    PS X (.Assign [tg] e pos) (tS X.K W n0 new (.set t A)) := by
  obtain ⟨g, p, k⟩ := hg
  refine PS.imp (ps_asg he (p X rfl) hs hw h1) fun D σ H h => ?_
  obtain ⟨F, m, μ, ρ, S, R, h⟩ := h
  rw [ex] at h
  refine ⟨F, m, μ, ρ, S, R, (post_st R h).imp (fun F' H' μ' x s S' q v r => ?_) fun _ _ _ _ _ x => x⟩
  cases x with
  | c n => exact (show False from q).elim
  | t n => exact (show False from q).elim
  | v d =>
    dsimp only at q
    cases e1 : asg t d ρ with
    | none => rw [e1] at q; exact (show False from q).elim
    | some ρ' =>
      rw [e1] at q
      exact k F' m μ' H' σ ρ ρ' v d _ S' (R.mono s) r e1 fun σ' R' _ => q F' m H' σ' (Same.refl _) rfl S' R'
/-- .. from any rule for an assignment to a name (a comprehension's) -/
theorem okS_setBy {i : Nat} {st : Stmt} (h : PS X st (tAsg (tE X.K W .v A) (gName i))) : PS X st (tS X.K W n0 new (.set (.n i) A)) := by
  refine PS.imp h fun D σ H h => ?_
  obtain ⟨F, m, μ, ρ, S, R, h⟩ := h
  rw [ex] at h
  refine ⟨F, m, μ, ρ, S, R, (post_st R h).imp (fun F' H' μ' x s S' q v r => ?_) fun _ _ _ _ _ x => x⟩
  cases x with
  | c n => exact (show False from q).elim
  | t n => exact (show False from q).elim
  | v d =>
    dsimp only at q
    cases e1 : asg (.n i) d ρ with
    | none => rw [e1] at q; exact (show False from q).elim
    | some ρ' =>
      rw [e1] at q
      unfold asg at e1
      split at e1
      · rename_i hl
        cases e1
        exact q F' m H' _ (Same.refl _) rfl S' ((R.mono s).set r hl)
      · cases e1

/-- a tuple made here, held as such -/
theorem okS_setT {i : Nat} {x : Str} {ps : Pos} (hN : X.N.Nodup) (hi : X.N[i]? = some x) (hx : Loc X.env.scope x) (hf : X.fn x = true ∨ X.env.scope.names.lookup x = some .local) (he : PE X e (tE X.K W .t A))
    (hs : swapsWithSole [.Name x ps] e pos.line X.env = pure false) (hw : swappedStores [.Name x ps] e X.env = pure none) (h1 : (assignEach [.Name x ps] X.env).map (·.2) = [assign (.Name x ps) X.env]) :
    PS X (.Assign [.Name x ps] e pos) (tS X.K W n0 new (.setT i A)) := by
  refine PS.imp (ps_asg he (pg_name hN hi hx hf) hs hw h1) fun D σ H h => ?_
  obtain ⟨F, m, μ, ρ, S, R, h⟩ := h
  rw [ex] at h
  refine ⟨F, m, μ, ρ, S, R, (post_st R h).imp (fun F' H' μ' x s S' q v r => ?_) fun _ _ _ _ _ x => x⟩
  cases x with
  | v d =>
    dsimp only at q
    split at q
    · rename_i hl
      exact q F' m H' _ (Same.refl _) rfl S' ((R.mono s).set (x := .t d) r hl)
    · exact (show False from q).elim
  | _ => exact (show False from q).elim
/-- what the law never comes to -/
theorem okS_stuck {st : Stmt} : PS X st (tS X.K W n0 new .stuck) := by
  refine ⟨fun pins s σ H D I h => ?_⟩
  obtain ⟨F, m, μ, ρ, S, R, h⟩ := h
  rw [ex] at h
  exact (show False from h).elim

/-! ### a cell of one's own -/
theorem killC_get {n : Nat} : ∀ {ρ : Env} {i : Nat} {a : Wp.A}, (killC n ρ)[i]? = some (some a) → ρ[i]? = some (some a) ∧ ∀ k, a = .c k → k ≠ n
  | [], _, _, h => by simp [killC] at h
  | o :: r, i, a, h => by
    cases o with
    | none =>
      rw [killC] at h
      · cases i with
        | zero => simp at h
        | succ i => simpa using killC_get (ρ := r) (i := i) (by simpa using h)
      · intro k z; cases z
    | some x =>
      cases x with
      | v d =>
        rw [killC] at h
        · cases i with
          | zero =>
            simp at h
            subst h
            exact ⟨rfl, fun k z => by cases z⟩
          | succ i => simpa using killC_get (ρ := r) (i := i) (by simpa using h)
        · intro k z; cases z
      | t d =>
        rw [killC] at h
        · cases i with
          | zero =>
            simp at h
            subst h
            exact ⟨rfl, fun k z => by cases z⟩
          | succ i => simpa using killC_get (ρ := r) (i := i) (by simpa using h)
        · intro k z; cases z
      | c k =>
        rw [killC] at h
        cases i with
        | zero =>
          by_cases hk : k = n
          · simp [hk] at h
          · rw [if_neg hk] at h
            simp at h
            subst h
            exact ⟨rfl, fun k' z => by cases z; exact hk⟩
        | succ i => simpa using killC_get (ρ := r) (i := i) (by simpa using h)
theorem killC_len (n : Nat) : ∀ ρ : Env, (killC n ρ).length = ρ.length
  | [] => rfl
  | o :: r => by
    cases o with
    | none =>
      rw [killC]
      · exact congrArg Nat.succ (killC_len n r)
      · intro k z; cases z
    | some x =>
      cases x with
      | v d =>
        rw [killC]
        · exact congrArg Nat.succ (killC_len n r)
        · intro k z; cases z
      | t d =>
        rw [killC]
        · exact congrArg Nat.succ (killC_len n r)
        · intro k z; cases z
      | c k =>
        rw [killC]
        exact congrArg Nat.succ (killC_len n r)
theorem take_set_ge {α : Type} (l : List α) {n i : Nat} (h : n ≤ i) (x : α) : (l.set i x).take n = l.take n := by
  rw [List.take_set]
  exact List.set_eq_of_length_le (by rw [List.length_take]; omega)
/-- cell n is from now on at address a, and holds c -/
theorem Sim.newCell {K : Frag} {F H : Hp} {m : List Addr} {μ : Mu} {n : Nat} {a : Addr} {c : Cell} (S : Sim K F m μ H) (hn : n < μ.length) (hc : CellOk K F H a c) (hf : ∀ (i : Nat) c', m[i]? = some a → μ[i]? = some c' → ¬ c'.live) :
    Sim K F (m.set n a) (μ.set n c) H := by
  have hm : n < m.length := by rw [S.len]; exact hn
  refine ⟨by rw [List.length_set, List.length_set]; exact S.len, S.sub, fun i b c' e1 e2 => ?_, fun i j b c1 c2 e1 e2 e3 e4 l1 l2 => ?_⟩
  · by_cases hi : n = i
    · subst hi
      rw [List.getElem?_set_self hm] at e1
      rw [List.getElem?_set_self hn] at e2
      cases e1
      cases e2
      exact hc
    · rw [List.getElem?_set_ne hi] at e1 e2
      exact S.cell i b c' e1 e2
  · by_cases hi : n = i
    · by_cases hj : n = j
      · omega
      · subst hi
        rw [List.getElem?_set_self hm] at e1
        rw [List.getElem?_set_ne hj] at e2 e4
        cases e1
        exact (hf j c2 e2 e4 l2).elim
    · by_cases hj : n = j
      · subst hj
        rw [List.getElem?_set_self hm] at e2
        rw [List.getElem?_set_ne hi] at e1 e3
        cases e2
        exact (hf i c1 e1 e3 l1).elim
      · rw [List.getElem?_set_ne hi] at e1 e3
        rw [List.getElem?_set_ne hj] at e2 e4
        exact S.inj i j b c1 c2 e1 e2 e3 e4 l1 l2
theorem RepS.newCell {K : Frag} {F : Hp} {m : List Addr} {σ : L2.St} {ρ : Env} {n i : Nat} {a : Addr} (R : RepS K F m σ ρ) (hn : n < m.length) (hi : i < ρ.length) :
    RepS K F (m.set n a) (σ.set i (some (.ref a))) ((killC n ρ).set i (some (.c n))) := by
  have hi' : i < (killC n ρ).length := by rw [killC_len]; exact hi
  refine ⟨by rw [List.length_set, List.length_set, killC_len]; exact R.len, fun j y e => ?_⟩
  by_cases h : i = j
  · subst h
    rw [List.getElem?_set_self hi'] at e
    cases e
    exact ⟨_, by rw [List.getElem?_set_self (by rw [R.len]; exact hi)], a, by rw [List.getElem?_set_self hn], rfl⟩
  · rw [List.getElem?_set_ne h] at e ⊢
    obtain ⟨e, hk⟩ := killC_get e
    obtain ⟨v, e2, r⟩ := R.get j y e
    refine ⟨v, e2, ?_⟩
    cases y with
    | v d => exact r
    | t d => exact r
    | c k =>
      obtain ⟨b, e3, e4⟩ := r
      exact ⟨b, by rw [List.getElem?_set_ne (fun z => hk k rfl z.symm)]; exact e3, e4⟩
theorem okS_newBy {i j : Nat} {st : Stmt} (h : PS X st (tAsg (tE X.K W .n A) (gName i))) : PS X st (tS X.K W n0 new (.new i j A)) := by
  refine PS.imp h fun D σ H h => ?_
  obtain ⟨F, m, μ, ρ, S, R, h⟩ := h
  rw [ex] at h
  refine ⟨F, m, μ, ρ, S, R, (post_st R h).imp (fun F' H' μ' x s S' q v r => ?_) fun _ _ _ _ _ x => x⟩
  cases x with
  | c n => exact (show False from r).elim
  | t n => exact (show False from r).elim
  | v d =>
    cases d with
    | lst xs =>
      obtain ⟨a, vs, rfl, h1, h2, h3, h4⟩ := r
      dsimp only at q
      by_cases hi : i < ρ.length ∧ n0 + j < μ'.length
      · rw [if_pos hi] at q
        have hm : n0 + j < m.length := by rw [S'.len]; exact hi.2
        exact q F' (m.set (n0 + j) a) H' _ (Same.refl _) (take_set_ge m (by omega) a) (S'.newCell hi.2 ⟨vs, h1, h2, h3⟩ h4) ((R.mono s).newCell hm hi.1)
      · rw [if_neg hi] at q
        exact (show False from q).elim
    | _ => exact (show False from q).elim
theorem okS_newE {i j : Nat} {x : Str} {ps : Pos} (hN : X.N.Nodup) (hi : X.N[i]? = some x) (hx : Loc X.env.scope x) (hf : X.fn x = true ∨ X.env.scope.names.lookup x = some .local) (he : PE X e (tE X.K W .n A)) (hs : swapsWith e (some (.Name x ps)) pos.line X.env = pure false) :
    PS X (.Assign [.Name x ps] e pos) (tS X.K W n0 new (.new i j A)) := okS_newBy (ps_set hN hi hx he hs hf)
end
end Wp

set_option Elab.async false
set_option linter.all false
set_option maxRecDepth 100000
set_option autoImplicit true
/-! W1f: stores into cells, augmented assignments, pairs at once. -/
namespace Wp
open PySem PySem.Spec PyProof.Rows L2

section
variable {es : List Expr} {X : Cx} {W : WX} {n0 : Nat} {new : Md} {e a b c : Expr} {A B C : E} {pos : Pos}

/-- behind the parts of a parallel assignment -/
def PostK (K : Frag) (W : WX) (n0 : Nat) (cs : List Nat) (F : Hp) (m : List Addr) (σ : L2.St) (k : Hp → Hp → List Addr → Mu → LA → Env → List V → Prop) : Res (LA × Env) → Prop
  | .ok y μ' => ∀ F' m' H', Same F F' → m'.take n0 = m.take n0 → (∀ i, (∀ j ∈ cs, i ≠ n0 + j) → m'[i]? = m[i]?) → Sim K F' m' μ' H' → RepS K F' m' σ y.2 → ∀ vs, RepAs K F' m' vs y.1 → k F' H' m' μ' y.1 y.2 vs
  | .exc c d μ' => ∀ F' H' cls dx, Same F F' → Sim K F' m μ' H' → ExcAt K F' H' c d cls dx → W cls dx σ H'
  | .no => False
def tPk (K : Frag) (W : WX) (n0 : Nat) (ps : List Pi) : TA := fun σ H Q => ∃ F m μ ρ, Sim K F m μ H ∧ RepS K F m σ ρ ∧
  PostK K W n0 (Pi.cells ps) F m σ (fun _ H' _ _ _ _ vs => Q vs H') (evk n0 ps ρ μ)
theorem okPk_nil : PA X [] (tPk X.K W n0 []) := by
  refine PA.imp pa_nil fun σ H Q h => ?_
  obtain ⟨F, m, μ, ρ, S, R, h⟩ := h
  exact h F m H (Same.refl F) rfl (fun _ _ => rfl) S R [] .nil
theorem RepAs.m {K : Frag} {F : Hp} {m m' : List Addr} (h : ∀ i : Nat, (∃ a, m[i]? = some a) → m'[i]? = m[i]?) : ∀ {v : V} {a : Wp.A}, RepA K F m v a → RepA K F m' v a := by
  intro v a r
  cases a with
  | v d => exact r
  | t d => exact r
  | c n =>
    obtain ⟨b, e, rfl⟩ := r
    exact ⟨b, by rw [h n ⟨b, e⟩]; exact e, rfl⟩
theorem tPk_imp {K : Frag} {ps : List Pi} {σ : L2.St} {H : Hp} {Q Q' : List V → Hp → Prop} (h : tPk K W n0 ps σ H Q) (i : ∀ vs H, Q vs H → Q' vs H) : tPk K W n0 ps σ H Q' := by
  obtain ⟨F, m, μ, ρ, S, R, h⟩ := h
  refine ⟨F, m, μ, ρ, S, R, ?_⟩
  cases e0 : evk n0 ps ρ μ with
  | no => rw [e0] at h; exact h
  | exc c d μ' => rw [e0] at h; exact h
  | ok y μ' =>
    rw [e0] at h
    exact fun F' m' H' s t o S' R' vs rs => i _ _ (h F' m' H' s t o S' R' vs rs)
theorem okPk_v {ps : List Pi} (ha : PE X e (tE X.K W .v A)) (hr : PA X es (tPk X.K W n0 ps)) (hs : starEach (e :: es) X.env = (false, eval e X.env) :: starEach es X.env) : PA X (e :: es) (tPk X.K W n0 (.v A :: ps)) := by
  refine PA.imp (pa_cons ha hr hs) fun σ H Q h => ?_
  obtain ⟨F, m, μ, ρ, S, R, h⟩ := h
  rw [evk, ev1] at h
  refine ⟨F, m, μ, ρ, S, R, ?_⟩
  cases e0 : ev A ρ μ with
  | no => rw [e0] at h; exact h
  | exc c d μ' => rw [e0] at h; exact h
  | ok x μ' =>
    rw [e0] at h
    intro F1 H1 s1 S1 v r
    cases x with
    | v d =>
      have h : PostK X.K W n0 _ F m σ _ ((evk n0 ps ρ μ').bind fun y μ2 => .ok (.v d :: y.1, y.2) μ2) := h
      refine ⟨F1, m, μ', ρ, S1, R.mono s1, ?_⟩
      cases e1 : evk n0 ps ρ μ' with
      | no => rw [e1] at h; exact h
      | exc c d' μ2 => rw [e1] at h; exact fun F2 H2 cls dx s2 => h F2 H2 cls dx (s1.trans s2)
      | ok y μ2 =>
        rw [e1] at h
        exact fun F2 m2 H2 s2 t2 o2 S2 R2 vs rs => h F2 m2 H2 (s1.trans s2) t2 o2 S2 R2 (v :: vs) (.cons (show Rep X.K F2 v d from (show Rep X.K F1 v d from r).mono s2) rs)
    | _ => exact (show False from h).elim
theorem okPk_t {ps : List Pi} (ha : PE X e (tE X.K W .t A)) (hr : PA X es (tPk X.K W n0 ps)) (hs : starEach (e :: es) X.env = (false, eval e X.env) :: starEach es X.env) : PA X (e :: es) (tPk X.K W n0 (.t A :: ps)) := by
  refine PA.imp (pa_cons ha hr hs) fun σ H Q h => ?_
  obtain ⟨F, m, μ, ρ, S, R, h⟩ := h
  rw [evk, ev1] at h
  refine ⟨F, m, μ, ρ, S, R, ?_⟩
  cases e0 : ev A ρ μ with
  | no => rw [e0] at h; exact h
  | exc c d μ' => rw [e0] at h; exact h
  | ok x μ' =>
    rw [e0] at h
    intro F1 H1 s1 S1 v r
    cases x with
    | v d =>
      have h : PostK X.K W n0 _ F m σ _ ((evk n0 ps ρ μ').bind fun y μ2 => .ok (.t d :: y.1, y.2) μ2) := h
      refine ⟨F1, m, μ', ρ, S1, R.mono s1, ?_⟩
      cases e1 : evk n0 ps ρ μ' with
      | no => rw [e1] at h; exact h
      | exc c d' μ2 => rw [e1] at h; exact fun F2 H2 cls dx s2 => h F2 H2 cls dx (s1.trans s2)
      | ok y μ2 =>
        rw [e1] at h
        exact fun F2 m2 H2 s2 t2 o2 S2 R2 vs rs => h F2 m2 H2 (s1.trans s2) t2 o2 S2 R2 (v :: vs) (.cons (show RepT X.K F2 v d from (show RepT X.K F1 v d from r).mono s2) rs)
    | _ => exact (show False from h).elim
theorem RepS.kill {K : Frag} {F : Hp} {m : List Addr} {σ : L2.St} {ρ : Env} {n : Nat} {a : Addr} (R : RepS K F m σ ρ) : RepS K F (m.set n a) σ (killC n ρ) := by
  refine ⟨by rw [killC_len]; exact R.len, fun j y e => ?_⟩
  obtain ⟨e, hk⟩ := killC_get e
  obtain ⟨v, e2, r⟩ := R.get j y e
  refine ⟨v, e2, ?_⟩
  cases y with
  | v d => exact r
  | t d => exact r
  | c k =>
    obtain ⟨b, e3, e4⟩ := r
    exact ⟨b, by rw [List.getElem?_set_ne (fun z => hk k rfl z.symm)]; exact e3, e4⟩
/-- a cell begun anew, and the rest -/
theorem begun {K : Frag} {σ : L2.St} {F F1 H1 : Hp} {m : List Addr} {μ' : Mu} {ρ : Env} {a : Addr} {j : Nat} {c : Wp.C} {ps : List Pi} {cs : List Nat} {Q : List V → Hp → Prop} (s1 : Same F F1) (S1 : Sim K F1 m μ' H1) (R1 : RepS K F1 m σ ρ) (hc : CellOk K F1 H1 a ⟨false, c⟩) (hf : ∀ (i : Nat) c', m[i]? = some a → μ'[i]? = some c' → ¬ c'.live)
    (hj : j ∉ Pi.cells ps) (hcs : ∀ i ∈ j :: Pi.cells ps, i ∈ cs)
    (h : PostK K W n0 cs F m σ (fun _ H' _ _ _ _ vs => Q vs H') ((begC (n0 + j) c ρ μ').bind fun x μ1 => (noExc (evk n0 ps x.2 μ1)).bind fun y μ2 => .ok (x.1 :: y.1, y.2) μ2)) :
    tPk K W n0 ps σ H1 fun vs H2 => Q (.ref a :: vs) H2 := by
  unfold begC at h
  by_cases hn : n0 + j < μ'.length
  · rw [if_pos hn] at h
    have h : PostK K W n0 _ F m σ _ ((noExc (evk n0 ps (killC (n0 + j) ρ) (μ'.set (n0 + j) ⟨false, c⟩))).bind fun y μ2 => .ok (.c (n0 + j) :: y.1, y.2) μ2) := h
    have hm : n0 + j < m.length := by rw [S1.len]; exact hn
    refine ⟨F1, m.set (n0 + j) a, μ'.set (n0 + j) ⟨false, c⟩, killC (n0 + j) ρ, S1.newCell hn hc hf, R1.kill, ?_⟩
    cases e1 : evk n0 ps (killC (n0 + j) ρ) (μ'.set (n0 + j) ⟨false, c⟩) with
    | no => rw [e1] at h; exact h
    | exc c d' μ2 => rw [e1] at h; exact (show False from h).elim
    | ok y μ2 =>
      rw [e1] at h
      intro F2 m2 H2 s2 t2 o2 S2 R2 vs rs
      refine h F2 m2 H2 (s1.trans s2) (t2.trans (take_set_ge m (Nat.le_add_right _ _) a)) (fun i hi => ?_) S2 R2 (.ref a :: vs) (.cons ⟨a, ?_, rfl⟩ rs)
      · rw [o2 i fun k hk => hi k (hcs k (List.mem_cons_of_mem _ hk))]
        exact List.getElem?_set_ne (fun z => hi j (hcs j List.mem_cons_self) z.symm)
      · rw [o2 (n0 + j) fun k hk z => hj (by have : j = k := by omega
                                             rw [this]; exact hk)]
        exact List.getElem?_set_self hm
  · rw [if_neg hn] at h
    exact (show False from h).elim
theorem okPk_n {ps : List Pi} {j : Nat} (ha : PE X e (tE X.K W .n A)) (hr : PA X es (tPk X.K W n0 ps)) (hs : starEach (e :: es) X.env = (false, eval e X.env) :: starEach es X.env) (hj : j ∉ Pi.cells ps) : PA X (e :: es) (tPk X.K W n0 (.n j A :: ps)) := by
  refine PA.imp (pa_cons ha hr hs) fun σ H Q h => ?_
  obtain ⟨F, m, μ, ρ, S, R, h⟩ := h
  rw [evk, ev1] at h
  refine ⟨F, m, μ, ρ, S, R, ?_⟩
  cases e0 : ev A ρ μ with
  | no => rw [e0] at h; exact h
  | exc c d μ' => rw [e0] at h; exact h
  | ok x μ' =>
    rw [e0] at h
    intro F1 H1 s1 S1 v r
    cases x with
    | v d =>
      cases d with
      | lst xs =>
        obtain ⟨a, vs, rfl, h1, h2, h3, h4⟩ := (show RepN X.K F1 m μ' H1 v (.lst xs) from r)
        exact begun (c := .lst xs) s1 S1 (R.mono s1) ⟨vs, h1, h2, h3⟩ h4 hj (fun i hi => hi) h
      | _ => exact (show False from h).elim
    | _ => exact (show False from h).elim
theorem okPk_dK {ps : List Pi} {j : Nat} {pd : Pos} (hr : PA X es (tPk X.K W n0 ps)) (hs : starEach (.Dict [] [] pd :: es) X.env = (false, eval (.Dict [] [] pd) X.env) :: starEach es X.env) (hj : j ∉ Pi.cells ps) : PA X (.Dict [] [] pd :: es) (tPk X.K W n0 (.dK j :: ps)) := by
  refine PA.imp (pa_cons pe_dnewK hr hs) fun σ H Q h => ?_
  obtain ⟨F, m, μ, ρ, S, R, h⟩ := h
  rw [evk, ev1] at h
  intro p hp
  exact begun (c := .dK []) (Same.refl F) (S.laid hp) R ⟨[], upd_same, S.sub.free hp, .nil⟩ (fun i c e1 e2 => S.notCell hp i c e1 e2) hj (fun i hi => hi) h
theorem okPk_dT {ps : List Pi} {j : Nat} {pd : Pos} (hr : PA X es (tPk X.K W n0 ps)) (hs : starEach (.Dict [] [] pd :: es) X.env = (false, eval (.Dict [] [] pd) X.env) :: starEach es X.env) (hj : j ∉ Pi.cells ps) : PA X (.Dict [] [] pd :: es) (tPk X.K W n0 (.dT j :: ps)) := by
  refine PA.imp (pa_cons pe_dnewT hr hs) fun σ H Q h => ?_
  obtain ⟨F, m, μ, ρ, S, R, h⟩ := h
  rw [evk, ev1] at h
  intro p hp
  exact begun (c := .dT []) (Same.refl F) (S.laid hp) R ⟨[], upd_same, S.sub.free hp, .nil⟩ (fun i c e1 e2 => S.notCell hp i c e1 e2) hj (fun i hi => hi) h
theorem evk_len : ∀ {ps : List Pi} {ρ : Env} {μ μ' : Mu} {y : LA × Env}, evk n0 ps ρ μ = .ok y μ' → y.1.length = ps.length
  | [], ρ, μ, μ', y, h => by
    unfold evk at h
    cases h
    rfl
  | p :: ps, ρ, μ, μ', y, h => by
    unfold evk at h
    cases e0 : ev1 n0 p ρ μ with
    | no => rw [e0] at h; cases h
    | exc c d μ1 => rw [e0] at h; cases h
    | ok x μ1 =>
      rw [e0] at h
      have h : ((if p.plain = true then evk n0 ps x.2 μ1 else noExc (evk n0 ps x.2 μ1)).bind fun y μ2 => .ok (x.1 :: y.1, y.2) μ2) = .ok y μ' := h
      cases e1 : evk n0 ps x.2 μ1 with
      | no => rw [e1] at h; split at h <;> cases h
      | exc c d μ2 => rw [e1] at h; split at h <;> cases h
      | ok z μ2 =>
        rw [e1] at h
        have h : Res.ok (x.1 :: z.1, z.2) μ2 = .ok y μ' := by split at h <;> exact h
        cases h
        exact congrArg Nat.succ (evk_len e1)
/-- from the parts to the assignment -/
theorem tPk_st {K : Frag} {D : Ends} {σ : L2.St} {H : Hp} {is : List Nat} {ps : List Pi} (h : tS K W n0 new (.par is ps) D σ H) :
    tPk K W n0 ps σ H fun vs H1 => vs.length = ps.length ∧ ∃ F m μ ρ as, Sim K F m μ H1 ∧ RepS K F m σ ρ ∧ RepAs K F m vs as ∧ PostS K W n0 new F m D (match putAll ρ is as with | some ρ' => .nx ρ' μ | none => .no) := by
  obtain ⟨F, m, μ, ρ, S, R, h⟩ := h
  rw [ex] at h
  refine ⟨F, m, μ, ρ, S, R, ?_⟩
  cases e0 : evk n0 ps ρ μ with
  | no => rw [e0] at h; exact h
  | exc c d μ' =>
    rw [e0] at h
    exact fun F' H' cls dx s S' x => h F' m H' σ cls dx s rfl S' (R.mono s) x
  | ok y μ' =>
    rw [e0] at h
    exact fun F' m' H' s t o S' R' vs rs => ⟨by rw [Paired.length rs]; exact evk_len e0, F', m', μ', y.2, y.1, S', R', rs, PostS.weak s t h⟩
theorem okS_par2 {i j : Nat} {x y : Str} {p1 p2 : Pi} {px py pt pt2 : Pos} {kt k2 : Nat} (hc : X.calm = true) (hN : X.N.Nodup) (hi : X.N[i]? = some x) (hj : X.N[j]? = some y) (hij : i ≠ j)
    (hx : X.env.scope.names.lookup x = some .local) (hy : X.env.scope.names.lookup y = some .local) (ha : PA X [a, b] (tPk X.K W n0 [p1, p2]))
    (hw : swappedStores [.Tuple [.Name x px, .Name y py] kt pt] (.Tuple [a, b] k2 pt2) X.env = pure (some [x, y])) (hs : swapsWithSole [.Tuple [.Name x px, .Name y py] kt pt] (.Tuple [a, b] k2 pt2) pos.line X.env = pure false) :
    PS X (.Assign [.Tuple [.Name x px, .Name y py] kt pt] (.Tuple [a, b] k2 pt2) pos) (tS X.K W n0 new (.par [i, j] [p1, p2])) := by
  refine PS.imp (ps_par hc hN hi hj hij hx hy ha hw hs) fun D σ H h => tPk_imp (tPk_st h) fun vs H1 q => ?_
  obtain ⟨hl, F, m, μ, ρ, as, S, R, rs, q⟩ := q
  match vs, as, rs, hl with
  | [v1, v2], _, .cons (b := a1) r1 (.cons (b := a2) r2 .nil), _ =>
    refine ⟨v1, v2, rfl, ?_⟩
    unfold putAll at q
    by_cases h1 : i < ρ.length
    · rw [if_pos h1] at q
      unfold putAll at q
      by_cases h2 : j < (ρ.set i (some a1)).length
      · rw [if_pos h2] at q
        unfold putAll at q
        exact q F m H1 _ (Same.refl _) rfl S ((R.set r1 h1).set r2 h2)
      · rw [if_neg h2] at q
        exact (show False from q).elim
    · rw [if_neg h1] at q
      exact (show False from q).elim
theorem okS_par3 {i j l : Nat} {x y z : Str} {p1 p2 p3 : Pi} {px py pz pt pt2 : Pos} {kt k2 : Nat} (hc : X.calm = true) (hN : X.N.Nodup) (hi : X.N[i]? = some x) (hj : X.N[j]? = some y) (hl : X.N[l]? = some z) (hij : i ≠ j) (hil : i ≠ l) (hjl : j ≠ l)
    (hx : X.env.scope.names.lookup x = some .local) (hy : X.env.scope.names.lookup y = some .local) (hz : X.env.scope.names.lookup z = some .local) (ha : PA X [a, b, c] (tPk X.K W n0 [p1, p2, p3]))
    (hw : swappedStores [.Tuple [.Name x px, .Name y py, .Name z pz] kt pt] (.Tuple [a, b, c] k2 pt2) X.env = pure (some [x, y, z])) (hs : swapsWithSole [.Tuple [.Name x px, .Name y py, .Name z pz] kt pt] (.Tuple [a, b, c] k2 pt2) pos.line X.env = pure false) :
    PS X (.Assign [.Tuple [.Name x px, .Name y py, .Name z pz] kt pt] (.Tuple [a, b, c] k2 pt2) pos) (tS X.K W n0 new (.par [i, j, l] [p1, p2, p3])) := by
  refine PS.imp (ps_par3 hc hN hi hj hl hij hil hjl hx hy hz ha hw hs) fun D σ H h => tPk_imp (tPk_st h) fun vs H1 q => ?_
  obtain ⟨hl, F, m, μ, ρ, as, S, R, rs, q⟩ := q
  match vs, as, rs, hl with
  | [v1, v2, v3], _, .cons (b := a1) r1 (.cons (b := a2) r2 (.cons (b := a3) r3 .nil)), _ =>
    refine ⟨v1, v2, v3, rfl, ?_⟩
    unfold putAll at q
    by_cases h1 : i < ρ.length
    · rw [if_pos h1] at q
      unfold putAll at q
      by_cases h2 : j < (ρ.set i (some a1)).length
      · rw [if_pos h2] at q
        unfold putAll at q
        by_cases h3 : l < ((ρ.set i (some a1)).set j (some a2)).length
        · rw [if_pos h3] at q
          unfold putAll at q
          exact q F m H1 _ (Same.refl _) rfl S (((R.set r1 h1).set r2 h2).set r3 h3)
        · rw [if_neg h3] at q
          exact (show False from q).elim
      · rw [if_neg h2] at q
        exact (show False from q).elim
    · rw [if_neg h1] at q
      exact (show False from q).elim

/-! ### a cell changed -/
theorem CellOk.unfrozen {K : Frag} {F H : Hp} {a : Addr} {c : Wp.C} (h : CellOk K F H a ⟨false, c⟩) (hl : c ≠ .dead) : F a = none := by
  cases c with
  | dead => exact (hl rfl).elim
  | lst ds => obtain ⟨_, _, _, h⟩ := h; exact h
  | dK ds => obtain ⟨_, _, h, _⟩ := h; exact h
  | dT ds => obtain ⟨_, _, h, _⟩ := h; exact h
theorem live_of {fz : Bool} {c : Wp.C} (h : c ≠ .dead) : (⟨fz, c⟩ : Cell).live := by
  cases c with
  | dead => exact h rfl
  | _ => trivial
theorem Sim.write {K : Frag} {F H : Hp} {m : List Addr} {μ : Mu} {n : Nat} {a : Addr} {c c' : Wp.C} {o : HO} (S : Sim K F m μ H) (e1 : m[n]? = some a) (e2 : μ[n]? = some ⟨false, c⟩) (hl : c ≠ .dead) (hc : CellOk K F (upd H a o) a ⟨false, c'⟩) :
    Sim K F m (μ.set n ⟨false, c'⟩) (upd H a o) := by
  have hn : n < μ.length := (List.getElem?_eq_some_iff.mp e2).1
  have hF := CellOk.unfrozen (S.cell n a _ e1 e2) hl
  refine ⟨by rw [List.length_set]; exact S.len, same_upd2 S.sub hF, fun i b d h1 h2 => ?_, fun i j b d d' h1 h2 h3 h4 l1 l2 => ?_⟩
  · by_cases hi : n = i
    · subst hi
      rw [List.getElem?_set_self hn] at h2
      rw [e1] at h1
      cases h1
      cases h2
      exact hc
    · rw [List.getElem?_set_ne hi] at h2
      by_cases l : d.live
      · have hba : b ≠ a := fun z => by
          subst z
          exact hi (S.inj i n b d _ h1 e1 h2 e2 l (live_of hl)).symm
        exact (S.cell i b d h1 h2).mono (Same.refl F) (fun x e => by rw [upd_ne hba]; exact e) id
      · obtain ⟨fz, d⟩ := d
        cases d with
        | dead => trivial
        | _ => exact (l trivial).elim
  · have old : ∀ (i : Nat) d, (μ.set n ⟨false, c'⟩)[i]? = some d → d.live → ∃ d', μ[i]? = some d' ∧ d'.live := by
      intro i d h l
      by_cases hi : n = i
      · subst hi
        exact ⟨_, e2, live_of hl⟩
      · rw [List.getElem?_set_ne hi] at h
        exact ⟨d, h, l⟩
    obtain ⟨x, h5, l3⟩ := old i d h3 l1
    obtain ⟨y, h6, l4⟩ := old j d' h4 l2
    exact S.inj i j b x y h1 h2 h5 h6 l3 l4
theorem ixN_eq (n : Nat) (i : Int) : L2.ixN n i = Wp.ixN n i := rfl

/-- x[k] = v, x a list -/
theorem okS_updL {o k v : Expr} {xo kk vv : E} {ps : Pos} (ho : PE X o (tE X.K W .v xo)) (hk : PE X k (tE X.K W .v kk)) (hv : PE X v (tE X.K W .v vv))
    (hs : swapsWithSole [.Subscript o k ps] v pos.line X.env = pure false) (hw : swappedStores [.Subscript o k ps] v X.env = pure none) (h1 : (assignEach [.Subscript o k ps] X.env).map (·.2) = [assign (.Subscript o k ps) X.env])
    (ha : ∀ w, assign (.Subscript o k ps) X.env w = (do
      let ov ← holding [w] (eval o X.env)
      let iv ← holding [w, ov] (eval k X.env)
      standAt ps
      holding [w, ov, iv] (setItem ov iv w)
      release [w, ov, iv] [])) :
    PS X (.Assign [.Subscript o k ps] v pos) (tS X.K W n0 new (.updL xo kk vv)) := by
  refine PS.imp (ps_asg hv (pg_sub ho hk set_list ha) hs hw h1) fun D σ H h => ?_
  obtain ⟨F, m, μ, ρ, S, R, h⟩ := h
  rw [ex] at h
  refine ⟨F, m, μ, ρ, S, R, (post_st R h).imp (fun F1 H1 μ1 va s1 S1 q v1 r1 => ?_) fun _ _ _ _ _ x => x⟩
  refine ⟨F1, m, μ1, ρ, S1, R.mono s1, (post_st (R.mono s1) q).imp (fun F2 H2 μ2 xa s2 S2 q v2 r2 => ?_) fun _ _ _ _ _ x => x⟩
  have R2 := (R.mono s1).mono s2
  refine ⟨F2, m, μ2, ρ, S2, R2, (post_st R2 q).imp (fun F3 H3 μ3 ka s3 S3 q v3 r3 => ?_) fun _ _ _ _ _ x => x⟩
  cases va with
  | c n => exact (show False from q).elim
  | t n => exact (show False from q).elim
  | v vd =>
    cases xa with
    | v d => exact (show False from q).elim
    | t d => exact (show False from q).elim
    | c n =>
      cases ka with
      | c n => exact (show False from q).elim
      | t n => exact (show False from q).elim
      | v kd =>
        dsimp only at q
        obtain ⟨a, e1, rfl⟩ := r2
        cases e2 : μ3[n]? with
        | none => rw [e2] at q; exact (show False from q).elim
        | some cc =>
          obtain ⟨fz, xc⟩ := cc
          rw [e2] at q
          cases fz with
          | true => exact (show False from q).elim
          | false =>
            dsimp only at q
            cases xc with
            | lst xs =>
              cases kd with
              | int i =>
                have q : PostS X.K W n0 new F3 m D (match (Wp.ixN xs.length i).map fun j => Wp.C.lst (xs.set j vd) with | some c' => .nx ρ (μ3.set n ⟨false, c'⟩) | none => .no) := q
                cases e3 : Wp.ixN xs.length i with
                | none => rw [e3] at q; exact (show False from q).elim
                | some j =>
                  rw [e3] at q
                  obtain ⟨vs, h1, h2, h3⟩ := S3.cell n a _ e1 e2
                  cases (show Rep X.K F3 v3 (.int i) from r3)
                  have r1' : Rep X.K F3 v1 vd := (show Rep X.K F1 v1 vd from r1).mono (s2.trans s3)
                  refine ⟨a, vs, i, j, rfl, rfl, h1, by rw [h2.length]; exact e3, ?_⟩
                  exact q F3 m _ σ (Same.refl _) rfl (S3.write e1 e2 (by simp) ⟨_, upd_same, h2.set r1' j, h3⟩) (R2.mono s3)
              | _ => exact (show False from q).elim
            | _ => exact (show False from q).elim
/-- xs[i], read by values -/
theorem get_list : PGet X (rIxL X.K) := by
  intro pins s σ H x y v u Q I rx ry h
  obtain ⟨p, xs, i, z, rfl, rfl, hq, he, q⟩ := h
  cases rx
  obtain ⟨t, rfl⟩ := ry
  obtain ⟨its, r, pl, hz⟩ := I.list hq
  obtain ⟨j, h1, h2, h3, h4, h5⟩ := atI_get he
  obtain ⟨w, ew, rw'⟩ := r.get h2
  have hl := r.length
  have hn := line63
  have fin : EP X pins σ Q w s := ⟨z, H, I, rw', q⟩
  by_cases h0 : 0 ≤ i
  · have hj : i.toNat = j := by
      rw [seqIndex_of h0 h5] at h1
      exact Option.some.inj h1
    exact wpAny_getItem_list pl.isList h0 (by omega) (by rw [hj]; simpa using ew) fin
  · have hj : (i + (its.toArray.size : Int)).toNat = j := by
      rw [seqIndex_neg (by omega) h4] at h1
      rw [List.size_toArray, ← hl]
      exact Option.some.inj h1
    exact wpAny_getItem_list_neg pl.isList (by omega) (by rw [List.size_toArray] <;> omega) (by omega) (by rw [hj]; simpa using ew) fin
theorem Reps.atI {K : Frag} {F : Hp} {vs : List V} {ds : List D} {i : Int} {j : Nat} {d : D} (r : Reps K F vs ds) (e : Wp.ixN ds.length i = some j) (h : ds[j]? = some d) : ∃ v, L2.atI vs i = some v ∧ Rep K F v d := by
  obtain ⟨v, ev, rv⟩ := r.get h
  refine ⟨v, ?_, rv⟩
  unfold L2.atI
  rw [r.length, show L2.ixN ds.length i = some j from e]
  exact ev
/-- x[k] op= e, x a list -/
theorem okS_augL {o k : Expr} {xo kk : E} {op : Operator} {r : R2} {p : P} {ps : Pos} (ho : PE X o (tE X.K W .v xo)) (hk : PE X k (tE X.K W .v kk)) (he : PE X e (tE X.K W .v A)) (hop : PIp X op r) (hp : PrimN X.K .v (rr2 r) p.f)
    (ha : ∀ ov iv new, augStore k ov iv new = (do holding [new, ov, iv] (setItem ov iv new); release [new, ov, iv] []; pure .next)) :
    PS X (.AugAssign (.Subscript o k ps) op e pos) (tS X.K W n0 new (.augL xo kk p A)) := by
  refine PS.imp (ps_augS ho hk get_list he hop set_list ha) fun D σ H h => ?_
  obtain ⟨F, m, μ, ρ, S, R, h⟩ := h
  rw [ex] at h
  refine ⟨F, m, μ, ρ, S, R, (post_st R h).imp (fun F1 H1 μ1 xa s1 S1 q v1 r1 => ?_) fun _ _ _ _ _ x => x⟩
  refine ⟨F1, m, μ1, ρ, S1, R.mono s1, (post_st (R.mono s1) q).imp (fun F2 H2 μ2 ka s2 S2 q v2 r2 => ?_) fun _ _ _ _ _ x => x⟩
  have R2 := (R.mono s1).mono s2
  cases xa with
  | v d => exact (show False from q).elim
  | t d => exact (show False from q).elim
  | c n =>
    cases ka with
    | c n => exact (show False from q).elim
    | t n => exact (show False from q).elim
    | v kd =>
      dsimp only at q
      obtain ⟨a, e1, rfl⟩ := r1
      cases e2 : μ2[n]? with
      | none => rw [e2] at q; exact (show False from q).elim
      | some cc =>
        obtain ⟨fz, xc⟩ := cc
        rw [e2] at q
        dsimp only at q
        cases xc with
        | lst xs =>
          cases kd with
          | int i =>
            cases (show Rep X.K F2 v2 (.int i) from r2)
            cases e3 : lookL (.lst xs) (.int i) with
            | none => rw [e3] at q; exact (show False from q).elim
            | some old =>
              rw [e3] at q
              dsimp only at q
              have e3' : (Wp.ixN xs.length i).bind (fun j => xs[j]?) = some old := e3
              cases e4 : Wp.ixN xs.length i with
              | none => rw [e4] at e3'; cases e3'
              | some j =>
                rw [e4] at e3'
                have e5 : xs[j]? = some old := e3'
                -- what is read
                have rd : ∃ vs, SqL X.K H2 a vs ∧ Reps X.K F2 vs xs := by
                  have hc := S2.cell n a _ e1 e2
                  cases fz with
                  | false =>
                    obtain ⟨vs, h1, h2, h3⟩ := hc
                    exact ⟨vs, .of h1, h2⟩
                  | true =>
                    obtain ⟨vs, h1, h2⟩ := hc
                    exact ⟨vs, .of (S2.sub _ _ h1), h2⟩
                obtain ⟨vs, hs, hr⟩ := rd
                obtain ⟨ov, eo, ro⟩ := hr.atI e4 e5
                refine ⟨a, vs, i, ov, rfl, rfl, hs, eo, F2, m, μ2, ρ, S2, R2, (post_st R2 q).imp (fun F3 H3 μ3 ya s3 S3 q w r3 => ?_) fun _ _ _ _ _ x => x⟩
                cases e6 : dr μ3 ya with
                | none => rw [e6] at q; exact (show False from q).elim
                | some y =>
                  rw [e6] at q
                  cases e7 : μ3[n]? with
                  | none => rw [e7] at q; exact (show False from q).elim
                  | some cc =>
                    obtain ⟨fz3, c3⟩ := cc
                    rw [e7] at q
                    cases fz3 with
                    | true => exact (show False from q).elim
                    | false =>
                      dsimp only at q
                      cases e8 : p.f [old, y] with
                      | none => rw [e8] at q; exact (show False from q).elim
                      | some d =>
                        rw [e8] at q
                        dsimp only at q
                        obtain ⟨x', y', ee, hr⟩ := hp F3 m μ3 H3 [ov, w] [old, y] d (fun z H5 => rSetL (.ref a) (.int i) z H5 fun H6 => D.nx σ H6) S3 (.cons (.inl (ro.mono s3)) (.cons (S3.dr r3 e6) .nil)) e8 fun F4 H4 z s4 S4 rz => by
                          cases c3 with
                          | lst ys =>
                            have q : PostS X.K W n0 new F3 m D (match (Wp.ixN ys.length i).map fun j => Wp.C.lst (ys.set j d) with | some c' => .nx ρ (μ3.set n ⟨false, c'⟩) | none => .no) := q
                            cases e9 : Wp.ixN ys.length i with
                            | none => rw [e9] at q; exact (show False from q).elim
                            | some l =>
                              rw [e9] at q
                              obtain ⟨ws, h1, h2, h3⟩ := S4.cell n a _ e1 e7
                              refine ⟨a, ws, i, l, rfl, rfl, h1, by rw [h2.length]; exact e9, ?_⟩
                              exact q F4 m _ σ s4 rfl (S4.write e1 e7 (by simp) ⟨_, upd_same, h2.set rz l, h3⟩) ((R2.mono s3).mono s4)
                          | _ => exact (show False from q).elim
                        cases ee
                        exact hr
          | _ => exact (show False from q).elim
        | _ =>
          cases kd <;> exact (show False from q).elim
/-- x op= e -/
theorem okS_aug {i : Nat} {x : Str} {op : Operator} {r : R2} {p : P} {ps : Pos} (hN : X.N.Nodup) (hi : X.N[i]? = some x) (hx : Loc X.env.scope x) (hf : X.fn x = true ∨ X.env.scope.names.lookup x = some .local) (he : PE X e (tE X.K W .v A)) (ho : PIp X op r) (hp : PrimN X.K .v (rr2 r) p.f) :
    PS X (.AugAssign (.Name x ps) op e pos) (tS X.K W n0 new (.aug i p A)) := by
  refine PS.imp (ps_aug hN hi hx he ho hf) fun D σ H h => ?_
  obtain ⟨F, m, μ, ρ, S, R, h⟩ := h
  rw [ex] at h
  cases e1 : ρ[i]? with
  | none => rw [e1] at h; exact (show False from h).elim
  | some o =>
    cases o with
    | none => rw [e1] at h; exact (show False from h).elim
    | some y =>
      cases y with
      | c n => rw [e1] at h; exact (show False from h).elim
      | t n => rw [e1] at h; exact (show False from h).elim
      | v xd =>
        rw [e1] at h
        dsimp only at h
        obtain ⟨v, e2, r0⟩ := R.get i _ e1
        refine ⟨v, e2, F, m, μ, ρ, S, R, (post_st R h).imp (fun F' H' μ' a s S' q w r1 => ?_) fun _ _ _ _ _ x => x⟩
        cases e3 : dr μ' a with
        | none => rw [e3] at q; exact (show False from q).elim
        | some y =>
          rw [e3] at q
          dsimp only at q
          cases e4 : p.f [xd, y] with
          | none => rw [e4] at q; exact (show False from q).elim
          | some d =>
            rw [e4] at q
            have hil : i < ρ.length := (List.getElem?_eq_some_iff.mp e1).1
            have r0' : Rep X.K F' v xd := (show Rep X.K F v xd from r0).mono s
            obtain ⟨x', y', ee, hr⟩ := hp F' m μ' H' [v, w] [xd, y] d (fun z H2 => D.nx (σ.set i (some z)) H2) S' (.cons (.inl r0') (.cons (S'.dr r1 e3) .nil)) e4 fun F2 H2 z s2 S2 rz => q F2 m H2 _ s2 rfl S2 (((R.mono s).mono s2).set rz hil)
            cases ee
            exact hr
end
end Wp

set_option Elab.async false
set_option linter.all false
set_option maxRecDepth 100000
set_option autoImplicit true
/-! W1g: what a loop walks. -/
namespace PySem
open Sem (wp)
set_option maxHeartbeats 1000000 in
theorem wp_meets_enumerate_new1 {v : Value} {o : Obj} {H : Heap → Prop} (B : Begins v o H) :
    Meets (Builtin.«enumerate.__new__» ⟨[.type "enumerate", v], []⟩) (fun _ R s => H s.heap ∧
      R (.ok (.ret (.ref (s.heap.push o).objs.size))) { s with heap := (s.heap.push o).push { cls := .type "enumerate", data := .fields #[.none, .bool false, .ref s.heap.objs.size, rawInt 0, .none, .none] } }) :=
  .of_wp fun prog w A R s h => by
    obtain ⟨hp, g, d, tk, os⟩ := s; obtain ⟨h1, h⟩ := h
    have hsub := sub_enumerate
    have q1 : ∀ {A' : Around} {E : Value → Shared → Prop} {Q : Value → Shared → Prop}, Q (.ref hp.objs.size) ⟨hp.push o, g, d, tk, os⟩ → wpAny (model prog w) A' (pyIter v) Q E ⟨hp, g, d, tk, os⟩ :=
      fun q => B.iter prog w _ _ ⟨hp, g, d, tk, os⟩ _ h1 q
    wp_walk using q1
    refine wpAny_stack_any fun st => wpAny_pure ?_
    split
    · rename_i c _ _ _ _ _
      cases (c == Value.type "enumerate")
      · wp_walk using q1
        exact ⟨_, rfl, h⟩
      · wp_walk using q1
        exact ⟨_, rfl, h⟩
    · wp_walk using q1
      exact ⟨_, rfl, h⟩
/-- enumerate(v): its two new objects -/
theorem wp_enum_begins1 {prog : Program} {w : World} {A : Around} {E : Value → Shared → Prop} {s : Shared} {v : Value} {o : Obj} {H : Heap → Prop} {Q : Value → Shared → Prop} (B : Begins v o H) (h1 : H s.heap)
    (h : ∀ h', IsEnum h' (s.heap.objs.size + 1) s.heap.objs.size 0 .none → h'.get? s.heap.objs.size = some o → h'.objs.size = s.heap.objs.size + 2 →
      (∀ b o, s.heap.get? b = some o → h'.get? b = some o) → Q (.ref (s.heap.objs.size + 1)) { s with heap := h' }) :
    wpAny (model prog w) A (call (.type "enumerate") [v]) Q E s := by
  refine callType_new F.called_enumerate (by decide) (F.typeCall_enumerate_1 _) (F.newCall_enumerate_1 _) (fun obj => F.args_object_init_2 obj _) F.entry_enumerate_new
    (wp_meets_enumerate_new1 B) ⟨h1, ?_⟩
  have hz : (s.heap.push o).objs.size = s.heap.objs.size + 1 := Heap.size_push ..
  show _ ∧ _
  rw [hz]
  have he : IsEnum ((s.heap.push o).push { cls := .type "enumerate", data := .fields #[.none, .bool false, .ref s.heap.objs.size, rawInt 0, .none, .none] }) (s.heap.objs.size + 1) s.heap.objs.size 0 .none := by
    have := Heap.get?_push_size (s.heap.push o) (o := { cls := .type "enumerate", data := .fields #[.none, .bool false, .ref s.heap.objs.size, rawInt 0, .none, .none] }) rfl
    rw [hz] at this; exact this
  refine ⟨⟨_, he, rfl⟩, h _ he (Heap.get?_push_of_some _ (Heap.get?_push_size _ B.free)) (by rw [Heap.size_push, hz]) fun b o x => Heap.get?_push_of_some _ (Heap.get?_push_of_some _ x)⟩
end PySem

namespace Wp
open PySem PySem.Spec PyProof.Rows L2

/-! ### enumerate of a tuple -/
def IteT (K : Frag) (a : Addr) : It :=
  ⟨fun i H => ∃ (xs : List V) (x : V), SqT K H a xs ∧ xs[i]? = some x, fun i H v H' => ∃ T x, v = .ref T ∧ H T = none ∧ H' = upd H T (.tup [.int (i : Nat), x]) ∧ ∀ xs, SqT K H a xs → xs[i]? = some x, fun i H => ∃ xs : List V, SqT K H a xs ∧ xs.length = i⟩
theorem turn_enumT {P : Program} {w : World} {K : Frag} {elts : List Expr} {kk : Nat} {tpos : Pos} (a e it : Addr) :
    Turn P w K (.Tuple elts kk tpos) (IteT K a) [e, it] e (fun i h => (∃ old, IsEnum h e it ((i : Nat) : Int) old) ∧ h.IsTupleIter it a i ∧ e ≠ it ∧ a ≠ it ∧ a ≠ e) where
  mem := by simp
  obj := fun i h st b hb => by
    obtain ⟨⟨old, he⟩, ⟨o, ho, hc, hd⟩, _⟩ := st
    have e' : b = e ∨ b = it := by simpa using hb
    rcases e' with z | z
    · rw [z]; exact ⟨_, he, fun v q => nomatch q⟩
    · rw [z]; exact ⟨o, ho, fun v q => by rw [hd] at q; cases q⟩
  keep := fun i h h' st k => let ⟨⟨old, he⟩, hi, hne⟩ := st; ⟨⟨old, k e (by simp) _ he⟩, hi.at fun o q => k it (by simp) o q, hne⟩
  item := by
    intro X hP hw hK hc i pins s σ H E I hf st hg
    subst hP hw hK
    obtain ⟨⟨old, he⟩, hit, hne, hai, hae⟩ := st
    obtain ⟨xs, x, hq, hx⟩ := hg
    obtain ⟨its, rv, p, hz⟩ := I.tuple hq
    obtain ⟨u, hu, ru⟩ := rv.get hx
    have hel : e < s.heap.objs.size := Heap.lt_size he
    have hil : it < s.heap.objs.size := by obtain ⟨_, q, _⟩ := hit; exact Heap.lt_size q
    have D := Draws.tuple (prog := X.prog) (w := X.w) (A := X.A.in1) (I.ok.hd hc) it a hai its.toArray
    have hlt : i < its.toArray.size := by
      have := (List.getElem?_eq_some_iff.mp hu).1
      simpa using this
    refine wpAny_pyNext_enum_itemD D he ⟨hit, p⟩ hlt hne (by simp [hne, Ne.symm hae]) fun u' h' tk hP ho hst' hT hsz hk => ?_
    have hu' : u' = u := by
      have h1 : its.toArray[i]? = some u' := hP
      rw [show its.toArray[i]? = its[i]? by simp, hu] at h1
      exact (Option.some.inj h1).symm
    subst hu'
    refine ⟨_, rfl, wpAny_letOwnedTupleGo_enum (s := { s with heap := h', toks := tk + 1 }) ho fun h'' he' sb => ?_⟩
    have hT2 : h''.get? s.heap.objs.size = some { cls := .type "tuple", data := .seq #[.int i tk, u'] } := (sb.2 _ (Nat.ne_of_gt hel)).trans hT
    have new : ObjOk X.prog X.w (upd H s.heap.objs.size (.tup [.int (i : Nat), x])) h'' s.heap.objs.size (.tup [.int (i : Nat), x]) :=
      ⟨by show 2 ≤ sizeLine; decide, [.int i tk, u'], .cons ⟨_, rfl⟩ (.cons ru .nil), ⟨_, hT2, rfl, _, rfl⟩⟩
    have I1 : Inv X pins σ (upd H s.heap.objs.size (.tup [.int (i : Nat), x])) { s with heap := h'', toks := tk + 1 } :=
      I.turnedNew (ch := [e, it]) (fun b ob hb q => (sb.2 b (fun z => hb (by simp [z]))).trans (hk b ob (fun z => hb (by simp [z])) (fun z => hb (by simp [z])) q)) hf (Nat.le_refl _) new
    refine ⟨.ref s.heap.objs.size, _, I1, rfl, ⟨_, x, rfl, I.hok.fresh (Nat.le_refl _), rfl, fun ys hy => by rw [I.tuple_inj hy hq]; exact hx⟩, ⟨⟨u', ?_⟩, hst'.1.at fun o q => (sb.2 it (Ne.symm hne)).trans q, hne, hai, hae⟩, fun b hb => ?_⟩
    · have e1 : ((i + 1 : Nat) : Int) = (i : Int) + 1 := by omega
      rw [e1]; exact he'
    · have hb' : b < s.heap.objs.size := by
        have e' : b = e ∨ b = it := by simpa using hb
        rcases e' with z | z
        · rw [z]; exact hel
        · rw [z]; exact hil
      rw [upd_ne (Nat.ne_of_lt hb')]
      exact (hf b hb).1
  done := by
    intro X hP hw hK hc i pins s σ H E I hf st hg
    subst hP hw hK
    obtain ⟨⟨old, he⟩, hit, hne, hai, hae⟩ := st
    obtain ⟨xs, hq, hx⟩ := hg
    obtain ⟨its, rv, p, hz⟩ := I.tuple hq
    obtain ⟨f0, f1, f2, f3, f4, f5⟩ := hf it (by simp)
    have hl := rv.length
    have D := Draws.tuple (prog := X.prog) (w := X.w) (A := X.A.in1) (I.ok.hd hc) it a hai its.toArray
    have hi : i = its.toArray.size := by simp; omega
    refine wpAny_pyNext_enum_endD D he (by rw [← hi]; exact ⟨hit, p⟩) fun h' eb => ⟨rfl, I.turned (t' := s.toks) (fun b o hb q => eb b o hb q) f0 f1 f3 f4 f5⟩
  self := fun A i s Q E st h => let ⟨⟨_, he⟩, _⟩ := st; wpAny_pyIter_enum he h

section
variable {X : Cx} {tg : Expr}
/-- enumerate of a list or of a tuple -/
def iEnumA (K : Frag) (ta : TA) : TI := fun σ H R => ta σ H fun vs H1 => ∃ a xs, vs = [.ref a] ∧ ((SqL K H1 a xs ∧ R (Ite K a) H1) ∨ (SqT K H1 a xs ∧ R (IteT K a) H1))
theorem pi_enumA {e : Expr} {ta : TA} {p pos tpos : Pos} {elts : List Expr} {kk : Nat} (hg : Gl X "enumerate") (hm : X.mg "enumerate" = none) (ha : PA X [e] ta) (hs : starEach [e] X.env = [(false, eval e X.env)] := by rfl) :
    PI X (.Tuple elts kk tpos) (.Call (.Name "enumerate" p) [e] [] pos) (iEnumA X.K ta) := by
  refine ⟨fun pins s σ H R I h => ?_⟩
  refine Call_ (ld_blt I hg hm boot_enumerate (PyProof.Rows.callWith_type1 (thn (ha.run pos pins s σ H _ I h) fun us s1 ⟨vs, H1, I1, r1, q1⟩ => ?_) hs rfl))
  obtain ⟨a, xs, ex, q1⟩ := q1
  subst ex
  cases r1 with
  | cons r rr =>
    cases rr
    cases r
    have fp2 : ∀ b ∈ [s1.heap.objs.size + 1, s1.heap.objs.size], FpOk X pins H1 b := fun b hb => by
      have e' : b = s1.heap.objs.size + 1 ∨ b = s1.heap.objs.size := by simpa using hb
      have hle : s1.heap.objs.size ≤ b := by
        rcases e' with z | z
        · rw [z]; exact Nat.le_add_right _ _
        · rw [z]; exact Nat.le_refl _
      exact I1.fpOk hle (I1.hok.fresh hle)
    rcases q1 with ⟨hq, q⟩ | ⟨hq, q⟩
    · obtain ⟨its, rv, p', hz⟩ := I1.list hq
      refine call_enumerate_list p'.isList fun h' he hit hsz hk => wpAny_pyIter_enum he ?_
      have I2 : Inv X pins σ H1 { s1 with heap := h' } := I1.kept (t' := s1.toks) hk
      exact ⟨s1.heap.objs.size + 1, [s1.heap.objs.size + 1, s1.heap.objs.size], _, _, H1, rfl, I2, turn_enum a (s1.heap.objs.size + 1) s1.heap.objs.size, ⟨⟨.none, he⟩, hit, Nat.succ_ne_self _⟩, fp2, q⟩
    · obtain ⟨its, rv, p', hz⟩ := I1.tuple hq
      obtain ⟨o1, ho1, _⟩ := id p'
      have hal : a < s1.heap.objs.size := Heap.lt_size ho1
      refine wp_enum_begins1 (begins_tuple a its.toArray) (show s1.heap.IsTuple a its.toArray from p') fun h' he hit hsz hk => wpAny_pyIter_enum he ?_
      have I2 : Inv X pins σ H1 { s1 with heap := h' } := I1.kept (t' := s1.toks) hk
      refine ⟨s1.heap.objs.size + 1, [s1.heap.objs.size + 1, s1.heap.objs.size], _, _, H1, rfl, I2, turn_enumT a (s1.heap.objs.size + 1) s1.heap.objs.size, ⟨⟨.none, he⟩, ⟨_, hit, rfl, rfl⟩, Nat.succ_ne_self _, Nat.ne_of_lt hal, ?_⟩, fp2, q⟩
      exact Nat.ne_of_lt (Nat.lt_succ_of_lt hal)

/-- a list, a tuple or a str -/
def iSeq (K : Frag) (tl : TE) : TI := fun σ H R => tl σ H fun x H1 => (∃ a xs, x = .ref a ∧ SqL K H1 a xs ∧ R (Itl K a) H1) ∨ (∃ a xs, x = .ref a ∧ SqT K H1 a xs ∧ R (Itt K a) H1) ∨ ∃ y, x = .str y ∧ R (Its y) H1
theorem pi_seq {l : Expr} {tl : TE} (hl : PE X l tl) : PI X tg l (iSeq X.K tl) := by
  refine ⟨fun pins s σ H R I h => ?_⟩
  refine thn (hl.run pins s σ H _ I h) fun v s1 ⟨x, H1, I1, r1, q1⟩ => ?_
  rcases q1 with ⟨a, xs, e, hq, q⟩ | ⟨a, xs, e, hq, q⟩ | ⟨y, e, q⟩
  · subst e
    cases r1
    obtain ⟨its, rv, p, hz⟩ := I1.list hq
    exact wpAny_pyIter_list p.isList (pi_one (tk := s1.toks) I1 _ (turn_list a _) ⟨_, Heap.get?_push_size _ rfl, rfl, rfl⟩ q)
  · subst e
    cases r1
    obtain ⟨its, rv, p, hz⟩ := I1.tuple hq
    exact wpAny_pyIter_tuple (show s1.heap.IsTuple a its.toArray from p) (pi_one (tk := s1.toks) I1 _ (turn_tuple a _) ⟨_, Heap.get?_push_size _ rfl, rfl, rfl⟩ q)
  · subst e
    obtain ⟨t, rfl⟩ := r1
    cases ha : y.cps.all (· < 128)
    · exact wpAny_pyIter_wide ha (pi_one (tk := s1.toks) I1 _ (turn_str _ y t "str_iterator" (.inr rfl)) ⟨_, Heap.get?_push_size _ rfl, rfl, rfl⟩ q)
    · exact wpAny_pyIter_ascii ha (pi_one (tk := s1.toks) I1 _ (turn_str _ y t "str_ascii_iterator" (.inl rfl)) ⟨_, Heap.get?_push_size _ rfl, rfl, rfl⟩ q)
end

/-! ### the readings -/
/-- J yields ds, from any heap that has what F1 has -/
def Wk (K : Frag) (F1 : Hp) (J : It) (ds : List D) : Prop := ∀ (F H : Hp) (m : List Addr) (μ : Mu), Same F1 F → Sim K F m μ H →
  (∀ (i : Nat) d, ds[i]? = some d → J.go i H ∧ ∀ x H', J.yld i H x H' → ∃ F', Same F F' ∧ Sim K F' m μ H' ∧ Rep K F' x d) ∧ J.stop ds.length H
def tI (K : Frag) (W : WX) (g : I) : TI := fun σ H R => ∃ F m μ ρ, Sim K F m μ H ∧ RepS K F m σ ρ ∧
  Post K F m (fun F' H' _ ds => ∀ J, Wk K F' J ds → R J H') (fun _ H' _ cls dx => W cls dx σ H') (evI g ρ μ)
theorem PI.imp {X : Cx} {tg e : Expr} {t t' : TI} (h : PI X tg e t) (i : ∀ σ H R, t' σ H R → t σ H R) : PI X tg e t' := ⟨fun pins s σ H R I q => h.run pins s σ H R I (i σ H R q)⟩

theorem wk_list {K : Frag} {F1 : Hp} {a : Addr} {vs : List V} {ds : List D} (h : SqL K F1 a vs) (r : Reps K F1 vs ds) : Wk K F1 (Itl K a) ds := by
  intro F H m μ s S
  have hH : SqL K H a vs := S.sub.seq (s.seq h)
  refine ⟨fun i d e => ?_, ⟨vs, hH, by rw [r.length]; exact Nat.le_refl _⟩⟩
  obtain ⟨v, ev, rv⟩ := r.get e
  refine ⟨⟨vs, v, hH, ev⟩, fun x H' y => ?_⟩
  obtain ⟨rfl, y⟩ := y
  have := y vs hH
  rw [ev] at this
  cases this
  exact ⟨F, Same.refl F, S, rv.mono s⟩
theorem wk_tup {K : Frag} {F1 : Hp} {a : Addr} {vs : List V} {ds : List D} (h : SqT K F1 a vs) (r : Reps K F1 vs ds) : Wk K F1 (Itt K a) ds := by
  intro F H m μ s S
  have hH : SqT K H a vs := same_tup S.sub (same_tup s h)
  refine ⟨fun i d e => ?_, ⟨vs, hH, by rw [r.length]; exact Nat.le_refl _⟩⟩
  obtain ⟨v, ev, rv⟩ := r.get e
  refine ⟨⟨vs, v, hH, ev⟩, fun x H' y => ?_⟩
  obtain ⟨rfl, y⟩ := y
  have := y vs hH
  rw [ev] at this
  cases this
  exact ⟨F, Same.refl F, S, rv.mono s⟩
theorem wk_str {K : Frag} {F1 : Hp} (x : Tx) : Wk K F1 (Its (sx x)) (x.map fun c => .str [c]) := by
  intro F H m μ s S
  refine ⟨fun i d e => ?_, by show (sx x).cps.size ≤ _; simp [sx]⟩
  rw [List.getElem?_map] at e
  cases e1 : x[i]? with
  | none => rw [e1] at e; cases e
  | some c =>
    rw [e1] at e
    cases e
    have hi := (List.getElem?_eq_some_iff.mp e1).1
    refine ⟨by show i < (sx x).cps.size; simpa [sx] using hi, fun y H' q => ?_⟩
    obtain ⟨rfl, c', e2, rfl⟩ := q
    have e2 : x[i]? = some c' := by simpa [sx] using e2
    rw [e1] at e2
    cases e2
    exact ⟨F, Same.refl F, S, .str [c]⟩
theorem rngL_length : ∀ (n : Nat) (lo : Int), (rngL lo n).length = n
  | 0, _ => rfl
  | n + 1, lo => congrArg Nat.succ (rngL_length n (lo + 1))
theorem rngL_get : ∀ (n : Nat) (lo : Int) (i : Nat), i < n → (rngL lo n)[i]? = some (.int (lo + i))
  | 0, _, _, h => absurd h (Nat.not_lt_zero _)
  | n + 1, lo, 0, _ => by simp [rngL]
  | n + 1, lo, i + 1, h => by
    rw [rngL, List.getElem?_cons_succ, rngL_get n (lo + 1) i (Nat.lt_of_succ_lt_succ h)]
    congr 2
    omega
theorem wk_rng {K : Frag} {F1 : Hp} (lo : Int) (n : Nat) : Wk K F1 (Itr lo n) (rngL lo n) := by
  intro F H m μ s S
  refine ⟨fun i d e => ?_, by show n ≤ _; rw [rngL_length]; exact Nat.le_refl _⟩
  have hi : i < n := by
    have := (List.getElem?_eq_some_iff.mp e).1
    rwa [rngL_length] at this
  rw [rngL_get n lo i hi] at e
  cases e
  refine ⟨hi, fun x H' q => ?_⟩
  obtain ⟨rfl, rfl⟩ := q
  exact ⟨F, Same.refl F, S, .int _⟩
theorem enumL_length : ∀ (ds : List D) (k : Nat), (enumL k ds).length = ds.length
  | [], _ => rfl
  | _ :: ds, k => congrArg Nat.succ (enumL_length ds (k + 1))
theorem enumL_get : ∀ (ds : List D) (k i : Nat), (enumL k ds)[i]? = (ds[i]?).map fun d => .tup [.int ((k + i : Nat) : Int), d]
  | [], _, _ => by simp [enumL]
  | d :: ds, k, 0 => by simp [enumL]
  | d :: ds, k, i + 1 => by
    rw [enumL, List.getElem?_cons_succ, List.getElem?_cons_succ, enumL_get ds (k + 1) i]
    congr 1
    funext d
    have e : k + 1 + i = k + (i + 1) := by omega
    rw [e]
theorem zipL_length : ∀ (xs ys : List D), (zipL xs ys).length = min xs.length ys.length
  | [], [] => rfl
  | [], _ :: _ => by simp [zipL]
  | _ :: _, [] => by simp [zipL]
  | x :: xs, y :: ys => by simp only [zipL, List.length_cons, zipL_length xs ys]; omega
theorem zipL_get : ∀ (xs ys : List D) (i : Nat) (d : D), (zipL xs ys)[i]? = some d → ∃ x y, xs[i]? = some x ∧ ys[i]? = some y ∧ d = .tup [x, y]
  | [], [], i, d, h => by simp [zipL] at h
  | [], _ :: _, i, d, h => by simp [zipL] at h
  | _ :: _, [], i, d, h => by simp [zipL] at h
  | x :: xs, y :: ys, 0, d, h => by
    simp [zipL] at h
    exact ⟨x, y, rfl, rfl, h.symm⟩
  | x :: xs, y :: ys, i + 1, d, h => by
    obtain ⟨a, b, h1, h2, h3⟩ := zipL_get xs ys i d (by simpa [zipL] using h)
    exact ⟨a, b, by simpa using h1, by simpa using h2, h3⟩
theorem pair_new {K : Frag} {F H : Hp} {m : List Addr} {μ : Mu} {T : Addr} {v u : V} {d e : D} (S : Sim K F m μ H) (hT : H T = none) (r : Rep K F v d) (q : Rep K F u e) :
    ∃ F', Same F F' ∧ Sim K F' m μ (upd H T (.tup [v, u])) ∧ Rep K F' (.ref T) (.tup [d, e]) := by
  obtain ⟨sF, S2⟩ := S.frozen (o := .tup [v, u]) hT
  exact ⟨_, sF, S2, .tup (.of upd_same) (.cons (r.mono sF) (.cons (q.mono sF) .nil))⟩
theorem wk_enum {K : Frag} {F1 : Hp} {a : Addr} {vs : List V} {ds : List D} (h : SqL K F1 a vs) (r : Reps K F1 vs ds) : Wk K F1 (Ite K a) (enumL 0 ds) := by
  intro F H m μ s S
  have hH : SqL K H a vs := S.sub.seq (s.seq h)
  refine ⟨fun i d e => ?_, ⟨vs, hH, by rw [enumL_length, r.length]; exact Nat.le_refl _⟩⟩
  rw [enumL_get] at e
  cases e1 : ds[i]? with
  | none => rw [e1] at e; cases e
  | some y =>
    rw [e1] at e
    cases e
    obtain ⟨v, ev, rv⟩ := r.get e1
    refine ⟨⟨vs, v, hH, ev⟩, fun x H' q => ?_⟩
    obtain ⟨T, x', rfl, hT, rfl, q⟩ := q
    have := q vs hH
    rw [ev] at this
    cases this
    have e0 : ((0 + i : Nat) : Int) = (i : Int) := by rw [Nat.zero_add]
    rw [e0]
    exact pair_new S hT (.int _) (rv.mono s)
theorem wk_enumT {K : Frag} {F1 : Hp} {a : Addr} {vs : List V} {ds : List D} (h : SqT K F1 a vs) (r : Reps K F1 vs ds) : Wk K F1 (IteT K a) (enumL 0 ds) := by
  intro F H m μ s S
  have hH : SqT K H a vs := same_tup S.sub (same_tup s h)
  refine ⟨fun i d e => ?_, ⟨vs, hH, by rw [enumL_length, r.length]⟩⟩
  rw [enumL_get] at e
  cases e1 : ds[i]? with
  | none => rw [e1] at e; cases e
  | some y =>
    rw [e1] at e
    cases e
    obtain ⟨v, ev, rv⟩ := r.get e1
    refine ⟨⟨vs, v, hH, ev⟩, fun x H' q => ?_⟩
    obtain ⟨T, x', rfl, hT, rfl, q⟩ := q
    have := q vs hH
    rw [ev] at this
    cases this
    have e0 : ((0 + i : Nat) : Int) = (i : Int) := by rw [Nat.zero_add]
    rw [e0]
    exact pair_new S hT (.int _) (rv.mono s)
theorem wk_zip {K : Frag} {F1 : Hp} {a b : Addr} {vs us : List V} {ds es : List D} (h : SqL K F1 a vs) (r : Reps K F1 vs ds) (h2 : SqL K F1 b us) (r2 : Reps K F1 us es) : Wk K F1 (Itz K a b) (zipL ds es) := by
  intro F H m μ s S
  have hH : SqL K H a vs := S.sub.seq (s.seq h)
  have hH2 : SqL K H b us := S.sub.seq (s.seq h2)
  refine ⟨fun i d e => ?_, ⟨vs, us, hH, hH2, by rw [zipL_length, r.length, r2.length]; omega⟩⟩
  obtain ⟨x, y, e1, e2, rfl⟩ := zipL_get ds es i d e
  obtain ⟨v, ev, rv⟩ := r.get e1
  obtain ⟨u, eu, ru⟩ := r2.get e2
  refine ⟨⟨vs, us, v, u, hH, hH2, ev, eu⟩, fun x H' q => ?_⟩
  obtain ⟨T, x', y', rfl, hT, rfl, q1, q2⟩ := q
  have := q1 vs hH
  rw [ev] at this
  cases this
  have := q2 us hH2
  rw [eu] at this
  cases this
  exact pair_new S hT (rv.mono s) (ru.mono s)
theorem wk_zipT {K : Frag} {F1 : Hp} {a b : Addr} {vs us : List V} {ds es : List D} (h : SqT K F1 a vs) (r : Reps K F1 vs ds) (h2 : SqT K F1 b us) (r2 : Reps K F1 us es) : Wk K F1 (RZ.ItzT K a b) (zipL ds es) := by
  intro F H m μ s S
  have hH : SqT K H a vs := same_tup S.sub (same_tup s h)
  have hH2 : SqT K H b us := same_tup S.sub (same_tup s h2)
  refine ⟨fun i d e => ?_, ⟨vs, us, hH, hH2, by rw [zipL_length, r.length, r2.length]; omega⟩⟩
  obtain ⟨x, y, e1, e2, rfl⟩ := zipL_get ds es i d e
  obtain ⟨v, ev, rv⟩ := r.get e1
  obtain ⟨u, eu, ru⟩ := r2.get e2
  refine ⟨⟨vs, us, v, u, hH, hH2, ev, eu⟩, fun x H' q => ?_⟩
  obtain ⟨T, x', y', rfl, hT, rfl, q1, q2⟩ := q
  have := q1 vs hH
  rw [ev] at this
  cases this
  have := q2 us hH2
  rw [eu] at this
  cases this
  exact pair_new S hT (rv.mono s) (ru.mono s)

section
variable {X : Cx} {W : WX} {tg e a b : Expr} {A B : E} {As : List E} {pos : Pos}
theorem tE_of {K : Frag} {σ : L2.St} {H : Hp} {R : It → Hp → Prop} (h : tI K W (.of A) σ H R) : iSeq K (tE K W .v A) σ H R := by
  obtain ⟨F, m, μ, ρ, S, RS, h⟩ := h
  unfold evI at h
  refine ⟨F, m, μ, ρ, S, RS, (h.bind).imp (fun F' H' μ' x s S' q v r => ?_) fun _ _ _ _ _ x => x⟩
  cases x with
  | c n => exact (show False from q).elim
  | t n => exact (show False from q).elim
  | v d =>
    dsimp only at q
    cases d with
    | lst ds =>
      cases r with
      | lst h1 h2 => exact .inl ⟨_, _, rfl, S'.sub.seq (.of h1), q F' H' (Same.refl _) S' _ (wk_list (.of h1) h2)⟩
    | tup ds =>
      cases r with
      | tup h1 h2 => exact .inr (.inl ⟨_, _, rfl, same_tup S'.sub h1, q F' H' (Same.refl _) S' _ (wk_tup h1 h2)⟩)
    | str x =>
      cases r with
      | str => exact .inr (.inr ⟨_, rfl, q F' H' (Same.refl _) S' _ (wk_str x)⟩)
    | _ => exact (show False from q).elim
theorem okI_of (h : PE X e (tE X.K W .v A)) : PI X tg e (tI X.K W (.of A)) := PI.imp (pi_seq h) fun _ _ _ q => tE_of q
theorem rngOf1 {ds l : List D} (e : rngOf ds = some l) (hl : ds.length = 1) : ∃ n : Int, ds = [.int n] ∧ -(2 ^ 62) ≤ n ∧ n < 2 ^ 62 ∧ l = rngL 0 n.toNat := by
  unfold rngOf at e
  split at e
  · rename_i n
    split at e
    · rename_i h
      cases e
      exact ⟨n, rfl, h.1, h.2, rfl⟩
    · cases e
  · cases hl
  · cases e
theorem rngOf2 {ds l : List D} (e : rngOf ds = some l) (hl : ds.length = 2) : ∃ n k : Int, ds = [.int n, .int k] ∧ (-(2 ^ 62) ≤ n ∧ n < 2 ^ 62 ∧ -(2 ^ 62) ≤ k ∧ k < 2 ^ 62) ∧ l = rngL n (k - n).toNat := by
  unfold rngOf at e
  split at e
  · cases hl
  · rename_i n k
    split at e
    · rename_i h
      cases e
      exact ⟨n, k, rfl, h, rfl⟩
    · cases e
  · cases e
theorem Reps.lenEq {K : Frag} {F : Hp} {m : List Addr} {vs : List V} {as : LA} {ds : List D} (r : RepAs K F m vs as) (e : vals as = some ds) : ds.length = as.length := by
  have h := (vals_rel r e).length
  rw [← h]; exact Paired.length r
theorem tI_rng {K : Frag} {σ : L2.St} {H : Hp} {R : It → Hp → Prop} (h : tI K W (.rng As) σ H R) : tEs K W As σ H fun vs H1 => ∃ F m μ ds l, Sim K F m μ H1 ∧ Reps K F vs ds ∧ ds.length = As.length ∧ rngOf ds = some l ∧ ∀ J, Wk K F J l → R J H1 := by
  obtain ⟨F, m, μ, ρ, S, RS, h⟩ := h
  unfold evI at h
  refine ⟨F, m, μ, ρ, S, RS, (h.bind).withEq.imp (fun F' H' μ' as s S' q vs rs => ?_) fun _ _ _ _ _ x => x⟩
  obtain ⟨q, eq⟩ := q
  cases e1 : vals as with
  | none => rw [e1] at q; exact (show False from q).elim
  | some ds =>
    rw [e1] at q
    have q : Post K F' m _ _ (optR (rngOf ds) μ') := q
    cases e2 : rngOf ds with
    | none => rw [e2] at q; exact (show False from q).elim
    | some l =>
      rw [e2] at q
      exact ⟨F', m, μ', ds, l, S', vals_rel rs e1, by rw [Reps.lenEq rs e1]; exact evs_length _ _ _ _ _ eq, e2, q F' H' (Same.refl _) S'⟩
theorem tEs.imp {K : Frag} {σ : L2.St} {H : Hp} {Q Q' : List V → Hp → Prop} (h : tEs K W As σ H Q) (i : ∀ vs H, Q vs H → Q' vs H) : tEs K W As σ H Q' := by
  obtain ⟨F, m, μ, ρ, S, RS, h⟩ := h
  exact ⟨F, m, μ, ρ, S, RS, h.imp (fun F' H' μ' as s S' q vs rs => i _ _ (q vs rs)) fun _ _ _ _ _ x => x⟩
theorem okI_rng1 {p : Pos} (hg : Gl X "range") (hm : X.mg "range" = none) (ha : PA X [a] (tEs X.K W [A])) (hs : starEach [a] X.env = [(false, eval a X.env)]) : PI X tg (.Call (.Name "range" p) [a] [] pos) (tI X.K W (.rng [A])) := by
  refine PI.imp (pi_range1 hg hm ha hs) fun σ H R h => (tI_rng h).imp fun vs H1 q => ?_
  obtain ⟨F, m, μ, ds, l, S, r, hl, e, q⟩ := q
  obtain ⟨n, rfl, h1, h2, rfl⟩ := rngOf1 e hl
  cases r with
  | cons r rr =>
    cases rr
    cases r
    exact ⟨n, rfl, h1, h2, q _ (wk_rng 0 n.toNat)⟩
theorem okI_rng2 {p : Pos} (hg : Gl X "range") (hm : X.mg "range" = none) (ha : PA X [a, b] (tEs X.K W [A, B])) (hs : starEach [a, b] X.env = [(false, eval a X.env), (false, eval b X.env)]) (hs2 : starEach [b] X.env = [(false, eval b X.env)]) : PI X tg (.Call (.Name "range" p) [a, b] [] pos) (tI X.K W (.rng [A, B])) := by
  refine PI.imp (pi_range2 hg hm ha hs hs2) fun σ H R h => (tI_rng h).imp fun vs H1 q => ?_
  obtain ⟨F, m, μ, ds, l, S, r, hl, e, q⟩ := q
  obtain ⟨n, k, rfl, h1, rfl⟩ := rngOf2 e hl
  cases r with
  | cons r rr =>
    cases rr with
    | cons r' rr =>
      cases rr
      cases r
      cases r'
      exact ⟨n, k, rfl, h1, q _ (wk_rng n _)⟩
theorem okI_enum {p tpos : Pos} {elts : List Expr} {kk : Nat} (hg : Gl X "enumerate") (hm : X.mg "enumerate" = none) (ha : PA X [e] (tEs X.K W [A])) (hs : starEach [e] X.env = [(false, eval e X.env)]) : PI X (.Tuple elts kk tpos) (.Call (.Name "enumerate" p) [e] [] pos) (tI X.K W (.enum A)) := by
  refine PI.imp (pi_enumA hg hm ha hs) fun σ H R h => ?_
  obtain ⟨F, m, μ, ρ, S, RS, h⟩ := h
  unfold evI at h
  refine ⟨F, m, μ, ρ, S, RS, ?_⟩
  unfold evs
  have h := h.bind
  cases e0 : ev A ρ μ with
  | no => rw [e0] at h; exact h
  | exc c d μ' => rw [e0] at h; exact h
  | ok x μ' =>
    rw [e0] at h
    show Post X.K F m _ _ (Res.bind (evs [] ρ μ') fun as μ2 => Res.ok (x :: as) μ2)
    rw [evs.eq_1]
    intro F' H' s S' vs rs
    have q := h F' H' s S'
    cases rs with
    | cons r rr =>
      cases rr
      cases x with
      | c n => exact (show False from q).elim
      | t n => exact (show False from q).elim
      | v d =>
        try dsimp only at q
        cases d with
        | lst ds =>
          cases r with
          | lst h1 h2 => exact ⟨_, _, rfl, .inl ⟨S'.sub.seq (.of h1), q F' H' (Same.refl _) S' _ (wk_enum (.of h1) h2)⟩⟩
        | tup ds =>
          cases r with
          | tup h1 h2 => exact ⟨_, _, rfl, .inr ⟨same_tup S'.sub h1, q F' H' (Same.refl _) S' _ (wk_enumT h1 h2)⟩⟩
        | str x => exact (show False from q).elim
        | _ => exact (show False from q).elim
theorem okI_zip {p tpos : Pos} {elts : List Expr} {kk : Nat} (hg : Gl X "zip") (hm : X.mg "zip" = none) (ha : PA X [a, b] (tEs X.K W [A, B])) (hs : starEach [a, b] X.env = (false, eval a X.env) :: starEach [b] X.env) (hpl : (backTo pos (starEach [b] X.env)).any (·.1) = false) :
    PI X (.Tuple elts kk tpos) (.Call (.Name "zip" p) [a, b] [] pos) (tI X.K W (.zip [A, B])) := by
  refine PI.imp (RZ.pi_zipA hg hm ha hs hpl) fun σ H R h => ?_
  obtain ⟨F, m, μ, ρ, S, RS, h⟩ := h
  unfold evI at h
  refine ⟨F, m, μ, ρ, S, RS, (h.bind).imp (fun F' H' μ' as s S' q vs rs => ?_) fun _ _ _ _ _ x => x⟩
  try dsimp only at q
  split at q
  · cases rs with
    | cons r rr =>
      cases rr with
      | cons r' rr =>
        cases rr
        cases r with
        | lst h1 h2 =>
          cases r' with
          | lst h3 h4 => exact ⟨_, _, _, _, rfl, .inl ⟨S'.sub.seq (.of h1), S'.sub.seq (.of h3), q F' H' (Same.refl _) S' _ (wk_zip (.of h1) h2 (.of h3) h4)⟩⟩
  · cases rs with
    | cons r rr =>
      cases rr with
      | cons r' rr =>
        cases rr
        cases r with
        | tup h1 h2 =>
          cases r' with
          | tup h3 h4 => exact ⟨_, _, _, _, rfl, .inr ⟨same_tup S'.sub h1, same_tup S'.sub h3, q F' H' (Same.refl _) S' _ (wk_zipT h1 h2 h3 h4)⟩⟩
  · exact (show False from q).elim
end
end Wp

set_option Elab.async false
set_option linter.all false
set_option maxRecDepth 100000
set_option autoImplicit true
/-! W1h: loops, list comprehensions. -/
namespace Wp
open PySem PySem.Spec PyProof.Rows L2

section
variable {X : Cx} {W : WX} {n0 : Nat} {new : Md} {e a b tg iter : Expr} {A B : E} {pos : Pos}

theorem drop_cons {α : Type} {l : List α} {i : Nat} (h : i < l.length) : l.drop i = l[i] :: l.drop (i + 1) := List.drop_eq_getElem_cons h

/-- for target in iter -/
theorem okS_for {body : List Stmt} {t : T} {g : I} {b : List S} (hp : PassesOwn (model X.prog X.w) X.A X.env X.xe) (hc : X.calm = true) (hi : PI X tg iter (tI X.K W g)) (hg : OkG (· = X) X.K tg t) (hb : PSs X body (tSs X.K W n0 new b))
    (hs : ∀ x, foldedSetIterable iter X.env x = pure x) : PS X (.For tg iter body [] pos) (tS X.K W n0 new (.for t g b)) := by
  obtain ⟨gg, hg, kg⟩ := hg
  refine PS.imp (ps_for hp hc hi (hg X rfl) hb hs) fun D σ H h => ?_
  obtain ⟨F, m, μ, ρ, S, R, h⟩ := h
  rw [ex] at h
  refine ⟨F, m, μ, ρ, S, R, (post_st R h).imp (fun F1 H1 μ1 ds s S1 q J wk => ?_) fun _ _ _ _ _ x => x⟩
  refine ⟨fun i k σ2 H2 => k = ds.length - i ∧ i ≤ ds.length ∧ ∃ F2 m2 μ2 ρ2, Same F1 F2 ∧ m2.take n0 = m.take n0 ∧ Sim X.K F2 m2 μ2 H2 ∧ RepS X.K F2 m2 σ2 ρ2 ∧ PostS X.K W n0 new F2 m2 D (forGo (asg t) (exs n0 b) (ds.drop i) ρ2 μ2),
    ⟨ds.length, by simp, Nat.zero_le _, F1, m, μ1, ρ, Same.refl _, rfl, S1, R.mono s, q⟩, ?_⟩
  rintro i k σ2 H2 ⟨rfl, hil, F2, m2, μ2, ρ2, s2, e2, S2, R2, q2⟩
  have w := wk F2 H2 m2 μ2 s2 S2
  by_cases hlt : i < ds.length
  · refine .inr ?_
    rw [drop_cons hlt] at q2
    unfold forGo at q2
    cases e1 : asg t ds[i] ρ2 with
    | none => rw [e1] at q2; exact (show False from q2).elim
    | some ρ3 =>
      rw [e1] at q2
      dsimp only at q2
      obtain ⟨go, yld⟩ := w.1 i ds[i] (by simp [hlt])
      refine ⟨go, fun σ4 H4 => ∃ F4 m4 μ4 ρ4, Same F1 F4 ∧ m4.take n0 = m.take n0 ∧ Sim X.K F4 m4 μ4 H4 ∧ RepS X.K F4 m4 σ4 ρ4 ∧ PostS X.K W n0 new F4 m4 D (forGo (asg t) (exs n0 b) (ds.drop (i + 1)) ρ4 μ4),
        fun σ4 H4 h4 => ⟨ds.length - (i + 1), by omega, rfl, hlt, h4⟩, fun x H3 y => ?_⟩
      obtain ⟨F3, s3, S3, r3⟩ := yld x H3 y
      refine kg F3 m2 μ2 H3 σ2 ρ2 ρ3 x ds[i] _ S3 (R2.mono s3) r3 e1 fun σ3 R3 _ => ?_
      refine ⟨F3, m2, μ2, ρ3, S3, R3, ?_⟩
      cases e4 : exs n0 b ρ3 μ2 with
      | nx ρ4 μ4 =>
        rw [e4] at q2
        exact fun F4 m4 H4 σ4 s4 e4 S4 R4 => ⟨F4, m4, μ4, ρ4, (s2.trans s3).trans s4, e4.trans e2, S4, R4, PostS.weak (s3.trans s4) e4 q2⟩
      | cnt ρ4 μ4 =>
        rw [e4] at q2
        exact fun F4 m4 H4 σ4 s4 e4 S4 R4 => ⟨F4, m4, μ4, ρ4, (s2.trans s3).trans s4, e4.trans e2, S4, R4, PostS.weak (s3.trans s4) e4 q2⟩
      | brk ρ4 μ4 =>
        rw [e4] at q2
        exact fun F4 m4 H4 σ4 s4 e4 S4 R4 => PostS.weak s3 rfl q2 F4 m4 H4 σ4 s4 e4 S4 R4
      | ret d μ4 =>
        rw [e4] at q2
        exact PostS.weak s3 rfl q2
      | exc c d ρ4 μ4 =>
        rw [e4] at q2
        exact PostS.weak s3 rfl q2
      | no =>
        rw [e4] at q2
        exact q2
  · refine .inl ?_
    have hi : i = ds.length := by omega
    subst hi
    rw [List.drop_length] at q2
    unfold forGo at q2
    exact ⟨w.2, q2 F2 m2 H2 σ2 (Same.refl _) rfl S2 R2⟩

/-- while c, at most n turns -/
theorem okS_whl {c : Expr} {body : List Stmt} {C : E} {n : Nat} {b : List S} (hp : PassesOwn (model X.prog X.w) X.A X.env X.xe) (hc : PT X c (tT X.K W C)) (hb : PSs X body (tSs X.K W n0 new b)) : PS X (.While c body [] pos) (tS X.K W n0 new (.whl n C b)) := by
  refine PS.imp (ps_while hp hc hb) fun D σ H h => ?_
  obtain ⟨F, m, μ, ρ, S, R, h⟩ := h
  rw [ex] at h
  refine ⟨fun k σ2 H2 => ∃ F2 m2 μ2 ρ2, m2.take n0 = m.take n0 ∧ Sim X.K F2 m2 μ2 H2 ∧ RepS X.K F2 m2 σ2 ρ2 ∧ PostS X.K W n0 new F2 m2 D (whGo (evT C) (exs n0 b) k ρ2 μ2), ⟨n, F, m, μ, ρ, rfl, S, R, h⟩, ?_⟩
  rintro k σ2 H2 ⟨F2, m2, μ2, ρ2, e2, S2, R2, q2⟩
  cases k with
  | zero => exact (show False from q2).elim
  | succ k =>
    unfold whGo at q2
    refine ⟨F2, m2, μ2, ρ2, S2, R2, (post_st R2 q2).imp (fun F3 H3 μ3 t s3 S3 q => ?_) fun _ _ _ _ _ x => x⟩
    cases t with
    | false => exact (show PostS X.K W n0 new F3 m2 D (.nx ρ2 μ3) from q) F3 m2 H3 σ2 (Same.refl _) rfl S3 (R2.mono s3)
    | true =>
      refine ⟨fun σ4 H4 => ∃ F4 m4 μ4 ρ4, m4.take n0 = m.take n0 ∧ Sim X.K F4 m4 μ4 H4 ∧ RepS X.K F4 m4 σ4 ρ4 ∧ PostS X.K W n0 new F4 m4 D (whGo (evT C) (exs n0 b) k ρ4 μ4),
        fun σ4 H4 h4 => ⟨k, Nat.lt_succ_self _, h4⟩, F3, m2, μ3, ρ2, S3, R2.mono s3, ?_⟩
      rw [if_pos rfl] at q
      cases e4 : exs n0 b ρ2 μ3 with
      | nx ρ4 μ4 =>
        rw [e4] at q
        exact fun F4 m4 H4 σ4 s4 e4 S4 R4 => ⟨F4, m4, μ4, ρ4, e4.trans e2, S4, R4, PostS.weak s4 e4 q⟩
      | cnt ρ4 μ4 =>
        rw [e4] at q
        exact fun F4 m4 H4 σ4 s4 e4 S4 R4 => ⟨F4, m4, μ4, ρ4, e4.trans e2, S4, R4, PostS.weak s4 e4 q⟩
      | brk ρ4 μ4 =>
        rw [e4] at q
        exact q
      | ret d μ4 =>
        rw [e4] at q
        exact q
      | exc c d ρ4 μ4 =>
        rw [e4] at q
        exact q
      | no =>
        rw [e4] at q
        exact q

/-! ### list comprehensions -/
theorem RepS.wipe {K : Frag} {F : Hp} {m : List Addr} {σ : L2.St} {ρ : Env} (R : RepS K F m σ ρ) : ∀ is : List Nat, RepS K F m (L2.wipe σ is) (wipeE ρ is)
  | [] => R
  | i :: is => by
    have R' := RepS.wipe R is
    refine ⟨by unfold L2.wipe wipeE; rw [List.length_set, List.length_set]; exact R'.len, fun j a e => ?_⟩
    unfold wipeE at e
    unfold L2.wipe
    by_cases h : i = j
    · subst h
      by_cases hl : i < (wipeE ρ is).length
      · rw [List.getElem?_set_self hl] at e; cases e
      · rw [List.getElem?_eq_none (by simpa using hl)] at e; cases e
    · rw [List.getElem?_set_ne h] at e ⊢
      exact R'.get j a e
theorem RepA.more {K : Frag} {F : Hp} {m : List Addr} {v : V} {a : Wp.A} (x : Addr) (h : RepA K F m v a) : RepA K F (m ++ [x]) v a := by
  cases a with
  | v d => exact h
  | t d => exact h
  | c n =>
    obtain ⟨b, e, rfl⟩ := h
    exact ⟨b, by rw [List.getElem?_append_left (List.getElem?_eq_some_iff.mp e).1]; exact e, rfl⟩
theorem RepS.more {K : Frag} {F : Hp} {m : List Addr} {σ : L2.St} {ρ : Env} (x : Addr) (R : RepS K F m σ ρ) : RepS K F (m ++ [x]) σ ρ :=
  ⟨R.len, fun i a e => let ⟨v, h, r⟩ := R.get i a e; ⟨v, h, r.more x⟩⟩
/-- a cell more, a new empty list -/
theorem Sim.more {K : Frag} {F H : Hp} {m : List Addr} {μ : Mu} {p : Addr} (S : Sim K F m μ H) (hp : H p = none) : Sim K F (m ++ [p]) (μ ++ [⟨false, .lst []⟩]) (upd H p (.lst [])) := by
  have S1 := S.laid (o := .lst []) hp
  refine ⟨by rw [List.length_append, List.length_append, S.len]; rfl, S1.sub, fun i a c e1 e2 => ?_, fun i j a c c' e1 e2 e3 e4 l1 l2 => ?_⟩
  · by_cases hi : i < m.length
    · rw [List.getElem?_append_left hi] at e1
      rw [List.getElem?_append_left (by rw [← S.len]; exact hi)] at e2
      exact S1.cell i a c e1 e2
    · rw [List.getElem?_append_right (by omega)] at e1
      rw [List.getElem?_append_right (by rw [← S.len]; omega)] at e2
      have h0 : i - m.length = 0 := by
        have := (List.getElem?_eq_some_iff.mp e1).1
        simpa using this
      rw [h0] at e1
      rw [← S.len, h0] at e2
      cases e1
      cases e2
      exact ⟨[], upd_same, .nil, S.sub.free hp⟩
  · have key : ∀ (i : Nat) c, (m ++ [p])[i]? = some a → (μ ++ [⟨false, .lst []⟩])[i]? = some c → c.live → (i < m.length ∧ m[i]? = some a ∧ μ[i]? = some c ∧ a ≠ p) ∨ (i = m.length ∧ a = p) := by
      intro i c k1 k2 l
      by_cases hi : i < m.length
      · rw [List.getElem?_append_left hi] at k1
        rw [List.getElem?_append_left (by rw [← S.len]; exact hi)] at k2
        exact .inl ⟨hi, k1, k2, fun z => S.notCell hp i c (by rw [← z]; exact k1) k2 l⟩
      · rw [List.getElem?_append_right (by omega)] at k1
        have := (List.getElem?_eq_some_iff.mp k1).1
        have h0 : i - m.length = 0 := by simpa using this
        rw [h0] at k1
        exact .inr ⟨by omega, by simpa using k1.symm⟩
    rcases key i c e1 e3 l1 with ⟨h1, h2, h3, h4⟩ | ⟨h1, h2⟩ <;> rcases key j c' e2 e4 l2 with ⟨h5, h6, h7, h8⟩ | ⟨h5, h6⟩
    · exact S.inj i j a c c' h2 h6 h3 h7 l1 l2
    · exact absurd h6 h4
    · exact absurd h2 h8
    · rw [h1, h5]
theorem Post.weakF {α : Type} {K : Frag} {F F' : Hp} {m : List Addr} {r : Res α} {k : Hp → Hp → Mu → α → Prop} {x : Hp → Hp → Mu → Value → Option Addr → Prop} (s : Same F F') (h : Post K F m k x r) : Post K F' m k x r := by
  cases r with
  | ok a μ => exact fun F2 H2 s2 => h F2 H2 (s.trans s2)
  | exc c d μ => exact fun F2 H2 cls dx s2 => h F2 H2 cls dx (s.trans s2)
  | no => exact h
theorem Post.noExc {α : Type} {K : Frag} {F : Hp} {m : List Addr} {r : Res α} {k : Hp → Hp → Mu → α → Prop} {x y : Hp → Hp → Mu → Value → Option Addr → Prop} (h : Post K F m k x (Wp.noExc r)) : Post K F m k y r := by
  cases r with
  | ok a μ => exact h
  | exc c d μ => exact (show False from h).elim
  | no => exact h
abbrev W0 : WX := fun _ _ _ _ => False
/-- a clause's tests -/
def tTs (K : Frag) (cs : List E) : TT := fun σ H Q => ∃ F m μ ρ, Sim K F m μ H ∧ RepS K F m σ ρ ∧
  Post K F m (fun _ H' _ b => Q b H') (fun _ _ _ _ _ => False) (evC cs ρ μ)
theorem okTs_nil : PTs X [] (tTs X.K []) := by
  refine ⟨fun pins s σ H Q I h => ?_⟩
  obtain ⟨F, m, μ, ρ, S, R, h⟩ := h
  rw [evC] at h
  exact pts_nil.run pins s σ H Q I (h F H (Same.refl _) S)
theorem okTs_one {c : Expr} {C : E} (h : PT X c (tT X.K W0 C)) : PTs X [c] (tTs X.K [C]) := by
  refine ⟨fun pins s σ H Q I hw => (pts_one h).run pins s σ H Q I ?_⟩
  obtain ⟨F, m, μ, ρ, S, R, hw⟩ := hw
  refine ⟨F, m, μ, ρ, S, R, ?_⟩
  unfold evC at hw
  unfold evT
  cases e1 : ev C ρ μ with
  | no => rw [e1] at hw; exact hw
  | exc c d μ1 => rw [e1] at hw; exact hw
  | ok x μ1 =>
    rw [e1] at hw
    show Post X.K F m _ _ (optR ((dr μ1 x).bind tru) μ1)
    have hw : Post X.K F m _ _ (match (dr μ1 x).bind tru with | some true => evC [] ρ μ1 | some false => .ok false μ1 | none => .no) := hw
    cases e2 : (dr μ1 x).bind tru with
    | none => rw [e2] at hw; exact hw
    | some t =>
      rw [e2] at hw
      cases t with
      | true => rw [evC] at hw; exact hw
      | false => exact hw

def Blk (X : Cx) (scope : Scope) : Cx → Prop := fun Y => ∃ (s : Shared) (H : Hp) (C : Addr) (cl : List (Str × Addr)) (fp : List Addr), Y = X.blk s H scope (compEnvC scope cl C X.env) fp
theorem wipe_eq {σ σ' : L2.St} {is own : List Nat} (h : Oth is σ σ') (hs : ∀ i ∈ is, i ∈ own) : L2.wipe σ' own = L2.wipe σ own := by
  apply List.ext_getElem?
  intro j
  have key : ∀ (own : List Nat) (σ : L2.St), (L2.wipe σ own)[j]? = if j ∈ own then (if j < σ.length then some none else none) else σ[j]? := by
    intro own
    induction own with
    | nil => intro σ; simp [L2.wipe]
    | cons v vs ih =>
      intro σ
      unfold L2.wipe
      rw [List.getElem?_set, L2.wipe_length, ih σ]
      by_cases h1 : v = j
      · subst h1; simp
      · have h2 : (j = v) = False := by simp; exact fun z => h1 z.symm
        simp only [if_neg h1, List.mem_cons, h2, false_or]
  rw [key, key, h.1]
  by_cases hj : j ∈ own
  · rw [if_pos hj, if_pos hj]
  · rw [if_neg hj, if_neg hj, h.2 j fun z => hj (hs j z)]

theorem tLc_ok {K : Frag} {t : T} {g : I} {cs : List E} {el : E} {own : List Nat} {gg : TG} {σ : L2.St} {H : Hp} {Q : VK}
    (kg : ∀ (F : Hp) (m : List Addr) (μ : Mu) (H : Hp) (σ : L2.St) (ρ ρ' : Env) (v : V) (d : D) (Q : L2.St → Hp → Prop), Sim K F m μ H → RepS K F m σ ρ → Rep K F v d → asg t d ρ = some ρ' →
      (∀ σ', RepS K F m σ' ρ' → Oth t.slots σ σ' → Q σ' H) → gg v σ H Q) (ho : ∀ i ∈ t.slots, i ∈ own) (h : tE K W .n (.lc g t cs el own) σ H Q) :
    tLc (tI K W g) gg (tTs K cs) (tE K W0 .v el) own σ H Q := by
  obtain ⟨F, m, μ, ρ, S, R, h⟩ := h
  unfold ev at h
  refine ⟨F, m, μ, ρ, S, R, (h.bind).imp (fun F1 H1 μ1 ds s S1 q J wk D hD => ?_) fun _ _ _ _ _ x => x⟩
  have S2 := S1.more hD
  have RB := ((R.mono s).more D).wipe own
  have q1 : Post K F1 (m ++ [D]) (fun F' H' μ' (_ : Unit) => Post K F' m (fun F2 H2 μ2 a => ∀ v, RepR K .n F2 m μ2 H2 v a → Q v H2) (fun _ H' _ cls dx => W cls dx σ H') (lcEnd μ1.length μ')) (fun _ _ _ _ _ => False)
      (lcGo (asg t) (evC cs) (fun ρ μ => (ev el ρ μ).bind toV) μ1.length (wipeE ρ own) ds (μ1 ++ [⟨false, .lst []⟩])) := by
    generalize lcGo (asg t) (evC cs) (fun ρ μ => (ev el ρ μ).bind toV) μ1.length (wipeE ρ own) ds (μ1 ++ [⟨false, .lst []⟩]) = r at q
    cases r with
    | no => exact q
    | exc c d μ' => exact (show False from q).elim
    | ok u μ' =>
      intro F' H' s' S'
      have q : Post K F1 m _ _ (lcEnd μ1.length μ') := q
      generalize lcEnd μ1.length μ' = r2 at q ⊢
      cases r2 with
      | no => exact q
      | exc c d μ2 => exact fun F2 H2 cls dx s2 => q F2 H2 cls dx (s'.trans s2)
      | ok a μ2 => exact fun F2 H2 s2 => q F2 H2 (s'.trans s2)
  refine ⟨fun i k H2 => k = ds.length - i ∧ i ≤ ds.length ∧ ∃ F2 μ2, Same F1 F2 ∧ Sim K F2 (m ++ [D]) μ2 H2 ∧
      Post K F2 (m ++ [D]) (fun F' H' μ' (_ : Unit) => Post K F' m (fun F2 H2 μ2 a => ∀ v, RepR K .n F2 m μ2 H2 v a → Q v H2) (fun _ H' _ cls dx => W cls dx σ H') (lcEnd μ1.length μ')) (fun _ _ _ _ _ => False)
        (lcGo (asg t) (evC cs) (fun ρ μ => (ev el ρ μ).bind toV) μ1.length (wipeE ρ own) (ds.drop i) μ2),
    ⟨ds.length, by simp, Nat.zero_le _, F1, _, Same.refl _, S2, q1⟩, ?_⟩
  rintro i k H2 ⟨rfl, hil, F2, μ2, s2, S2, q2⟩
  have w := wk F2 H2 (m ++ [D]) μ2 s2 S2
  by_cases hlt : i < ds.length
  · refine .inr ?_
    rw [drop_cons hlt] at q2
    unfold lcGo at q2
    cases e1 : asg t ds[i] (wipeE ρ own) with
    | none => rw [e1] at q2; exact (show False from q2).elim
    | some ρ3 =>
      rw [e1] at q2
      dsimp only at q2
      obtain ⟨go, yld⟩ := w.1 i ds[i] (by simp [hlt])
      refine ⟨go, fun H4 => ∃ F4 μ4, Same F1 F4 ∧ Sim K F4 (m ++ [D]) μ4 H4 ∧
        Post K F4 (m ++ [D]) (fun F' H' μ' (_ : Unit) => Post K F' m (fun F2 H2 μ2 a => ∀ v, RepR K .n F2 m μ2 H2 v a → Q v H2) (fun _ H' _ cls dx => W cls dx σ H') (lcEnd μ1.length μ')) (fun _ _ _ _ _ => False)
          (lcGo (asg t) (evC cs) (fun ρ μ => (ev el ρ μ).bind toV) μ1.length (wipeE ρ own) (ds.drop (i + 1)) μ4),
        fun H4 h4 => ⟨ds.length - (i + 1), by omega, rfl, hlt, h4⟩, fun x H3 y => ?_⟩
      obtain ⟨F3, s3, S3, r3⟩ := yld x H3 y
      refine kg F3 (m ++ [D]) μ2 H3 _ (wipeE ρ own) ρ3 x ds[i] _ S3 (RB.mono (s2.trans s3)) r3 e1 fun σ3 R3 o3 => ?_
      refine ⟨?_, F3, m ++ [D], μ2, ρ3, S3, R3, ((Post.weakF s3 q2).bind).imp (fun F4 H4 μ4 b s4 S4 q4 => ?_) fun _ _ _ _ _ x => x⟩
      · rw [wipe_eq o3 ho]
        apply List.ext_getElem?
        intro j
        have key : ∀ (own' : List Nat) (σ : L2.St), (L2.wipe σ own')[j]? = if j ∈ own' then (if j < σ.length then some none else none) else σ[j]? := by
          intro own'
          induction own' with
          | nil => intro σ; simp [L2.wipe]
          | cons v vs ih =>
            intro σ
            unfold L2.wipe
            rw [List.getElem?_set, L2.wipe_length, ih σ]
            by_cases h1 : v = j
            · subst h1; simp
            · have h2 : (j = v) = False := by simp; exact fun z => h1 z.symm
              simp only [if_neg h1, List.mem_cons, h2, false_or]
        rw [key, key, L2.wipe_length]
        split <;> rfl
      · cases b with
        | false =>
          rw [if_neg Bool.false_ne_true]
          exact ⟨F4, μ4, (s2.trans s3).trans s4, S4, q4⟩
        | true =>
          rw [if_pos rfl]
          rw [if_pos rfl] at q4
          refine ⟨F4, m ++ [D], μ4, ρ3, S4, R3.mono s4, ((q4.bind).bind).imp (fun F5 H5 μ5 a s5 S5 q5 v r5 => ?_) fun _ _ _ _ _ x => x⟩
          have key : ∀ d, Rep K F5 v d → Post K F5 (m ++ [D]) (fun F' H' μ' (_ : Unit) => Post K F' m (fun F2 H2 μ2 a => ∀ v, RepR K .n F2 m μ2 H2 v a → Q v H2) (fun _ H' _ cls dx => W cls dx σ H') (lcEnd μ1.length μ')) (fun _ _ _ _ _ => False)
              (match μ5[μ1.length]? with
                | some ⟨false, .lst acc⟩ => if acc.length < SL then lcGo (asg t) (evC cs) (fun ρ μ => (ev el ρ μ).bind toV) μ1.length (wipeE ρ own) (ds.drop (i + 1)) (μ5.set μ1.length ⟨false, .lst (acc ++ [d])⟩) else .no
                | _ => .no) → ∃ acc, H5 D = some (.lst acc) ∧ acc.length < sizeLine ∧ ∃ F4 μ4, Same F1 F4 ∧ Sim K F4 (m ++ [D]) μ4 (upd H5 D (.lst (acc ++ [v]))) ∧
                Post K F4 (m ++ [D]) (fun F' H' μ' (_ : Unit) => Post K F' m (fun F2 H2 μ2 a => ∀ v, RepR K .n F2 m μ2 H2 v a → Q v H2) (fun _ H' _ cls dx => W cls dx σ H') (lcEnd μ1.length μ')) (fun _ _ _ _ _ => False)
                  (lcGo (asg t) (evC cs) (fun ρ μ => (ev el ρ μ).bind toV) μ1.length (wipeE ρ own) (ds.drop (i + 1)) μ4) := by
            intro d r5 q5
            cases e6 : μ5[μ1.length]? with
            | none => rw [e6] at q5; exact (show False from q5).elim
            | some cc =>
              obtain ⟨fz, c⟩ := cc
              rw [e6] at q5
              cases fz with
              | true => exact (show False from q5).elim
              | false =>
                cases c with
                | lst acc =>
                  dsimp only at q5
                  split at q5
                  · rename_i hacc
                    have eD : (m ++ [D])[μ1.length]? = some D := by
                      rw [← S1.len, List.getElem?_append_right (Nat.le_refl _)]; simp
                    obtain ⟨vs, h1, h2, h3⟩ := S5.cell _ D _ eD e6
                    refine ⟨vs, h1, by rw [h2.length, ← sl_eq]; exact hacc, F5, _, ((s2.trans s3).trans s4).trans s5, S5.write (c' := .lst (acc ++ [d])) eD e6 (by simp) ⟨_, upd_same, h2.append (.cons r5 .nil), h3⟩, q5⟩
                  · exact (show False from q5).elim
                | _ => exact (show False from q5).elim
          cases a with
          | c n => exact (show False from q5).elim
          | t d => exact key d (RepT.rep r5) (Post.ok q5 S5)
          | v d => exact key d r5 (Post.ok q5 S5)
  · refine .inl ?_
    have hi : i = ds.length := by omega
    subst hi
    rw [List.drop_length] at q2
    unfold lcGo at q2
    refine ⟨w.2, ?_⟩
    have q3 := Post.ok q2 S2
    unfold lcEnd at q3
    cases e6 : μ2[μ1.length]? with
    | none => rw [e6] at q3; exact (show False from q3).elim
    | some cc =>
      obtain ⟨fz, c⟩ := cc
      rw [e6] at q3
      cases fz with
      | true => exact (show False from q3).elim
      | false =>
        cases c with
        | lst acc =>
          dsimp only at q3
          have eD : (m ++ [D])[μ1.length]? = some D := by
            rw [← S1.len, List.getElem?_append_right (Nat.le_refl _)]; simp
          obtain ⟨vs, h1, h2, h3⟩ := S2.cell _ D _ eD e6
          have S3 := S2.take μ1.length
          rw [show (m ++ [D]).take μ1.length = m by rw [← S1.len]; simp] at S3
          refine Post.ok q3 S3 _ ⟨D, vs, rfl, h1, h2, h3, fun j c e1 e2 hl => ?_⟩
          have hj : j < m.length := (List.getElem?_eq_some_iff.mp e1).1
          have e1' : (m ++ [D])[j]? = some D := by rw [List.getElem?_append_left hj]; exact e1
          have e2' : μ2[j]? = some c := by
            rw [List.getElem?_take] at e2
            split at e2
            · exact e2
            · cases e2
          have := S2.inj j μ1.length D c _ e1' eD e2' e6 hl trivial
          rw [← S1.len] at this
          omega
        | _ => exact (show False from q3).elim
/-- [elt for target in iter if ..] -/
theorem okN_lc {elt tg iter : Expr} {ifs : List Expr} {scope : Scope} {own : List (Str × Nat)} {pos : Pos} {t : T} {g : I} {cs : List E} {el : E} (hc : X.calm = true) (hN : X.N.Nodup) (hi : PI X tg iter (tI X.K W g)) (ok : BlkOk X.N X.env.scope scope own)
    (hg : OkG (Blk X scope) X.K tg t) (ho : ∀ i ∈ t.slots, i ∈ own.map (·.2)) (ht : ∀ Y, Blk X scope Y → PTs Y ifs (tTs X.K cs)) (he : ∀ Y, Blk X scope Y → PE Y elt (tE X.K W0 .v el)) (hs : ∀ x, foldedSetIterable iter X.env x = pure x) :
    PE X (.ListComp elt [⟨tg, iter, ifs, 0⟩] scope pos) (tE X.K W .n (.lc g t cs el (own.map (·.2)))) := by
  obtain ⟨gg, hg, kg⟩ := hg
  exact PE.imp (pe_lc hc hN hi ok (fun s H C cl fp => hg _ ⟨s, H, C, cl, fp, rfl⟩) (fun s H C cl fp => ht _ ⟨s, H, C, cl, fp, rfl⟩) (fun s H C cl fp => he _ ⟨s, H, C, cl, fp, rfl⟩) hs) fun σ H Q h => tLc_ok kg ho h
/-- name = [..] -/
theorem tAsg_lc {i : Nat} {y : Str} {py : Pos} {elt tg iter : Expr} {ifs : List Expr} {scope : Scope} {own : List (Str × Nat)} {pos spos : Pos} {t : T} {g : I} {cs : List E} {el : E} (hc : X.calm = true) (hN : X.N.Nodup) (hy : X.N[i]? = some y) (hyl : X.env.scope.names.lookup y = some .local)
    (hsw : swapsWith (.ListComp elt [⟨tg, iter, ifs, 0⟩] scope pos) (some (.Name y py)) spos.line X.env = pure true) (hi : PI X tg iter (tI X.K W g)) (ok : BlkOk X.N X.env.scope scope own)
    (hg : OkG (Blk X scope) X.K tg t) (ho : ∀ i ∈ t.slots, i ∈ own.map (·.2)) (ht : ∀ Y, Blk X scope Y → PTs Y ifs (tTs X.K cs)) (he : ∀ Y, Blk X scope Y → PE Y elt (tE X.K W0 .v el)) (hs : ∀ x, foldedSetIterable iter X.env x = pure x) :
    PS X (.Assign [.Name y py] (.ListComp elt [⟨tg, iter, ifs, 0⟩] scope pos) spos) (tAsg (tE X.K W .n (.lc g t cs el (own.map (·.2)))) (gName i)) := by
  obtain ⟨gg, hg, kg⟩ := hg
  exact PS.imp (ps_setLc hc hN hy hyl hsw hi ok (fun s H C cl fp => hg _ ⟨s, H, C, cl, fp, rfl⟩) (fun s H C cl fp => ht _ ⟨s, H, C, cl, fp, rfl⟩) (fun s H C cl fp => he _ ⟨s, H, C, cl, fp, rfl⟩) hs) fun D σ H h => tLc_ok kg ho h
end
end Wp

set_option Elab.async false
set_option linter.all false
set_option maxRecDepth 100000
set_option maxHeartbeats 4000000
namespace L2
open PySem PySem.Spec PyProof.Rows
theorem tuple_mul1 (l : Addr) (items : Array Value) (n : Nat) (dd : Option Addr) (sl : Array (Option Value)) (u : Tok) :
    Meets (Builtin.«tuple.__mul__» ⟨[.ref l, .int 1 u], []⟩) (fun _ R s => s.heap.get? l = some { cls := .type "tuple", dict := dd, data := .seq items n, slots := sl } ∧
      R (.ok (.ret (Value.ref l))) s) :=
  .of_wp fun prog w A R s h => by
    obtain ⟨hp, g, d, tk, os⟩ := s
    obtain ⟨hl, h⟩ := h
    have f1 := AutoSeq1.idx_int
    have c0 : (decide ((1:Int) < -(2 ^ 63)) || decide ((1:Int) ≥ 2 ^ 63)) = false := by decide
    have c1 : (items.isEmpty || (1:Int) == 1) = true := by simp
    wp_walk using wpAny_loadPart' hl
    repeat (first
      | (refine wpAny_ite_false (decide_eq_false (by rw [c0]; exact Bool.false_ne_true)) ?_; wp_walk using wpAny_loadPart' hl)
      | (refine wpAny_ite_true (decide_eq_true c1) ?_; wp_walk using wpAny_loadPart' hl))
    exact ⟨_, rfl, h⟩
/-- a tuple so often: once it is itself -/
def rRepU (K : PySem.W.Frag) : R2 := fun x y H Q => ∃ l k xs, x = .ref l ∧ y = .int k ∧ SqT K H l xs ∧ xs ≠ [] ∧ 1 ≤ k ∧ k ≤ 1000 ∧ xs.length ≤ 1000 ∧ (k = 1 → Q (.ref l) H) ∧ (2 ≤ k → ∀ p, H p = none → Q (.ref p) (upd H p (.tup (List.replicate k.toNat xs).flatten)))
theorem op_repU {X : Cx} : OpR X (binaryOp .Mult) (rRepU X.K) := by
  intro pins s σ H x y v u Q I rx ry h
  obtain ⟨l, k, xs, rfl, rfl, hT, hne, h1, h2, hz, q1, q2⟩ := h
  by_cases hk : k = 1
  · subst hk
    cases rx
    obtain ⟨t, rfl⟩ := ry
    obtain ⟨its, r, ⟨⟨cls, dd, data, sl⟩, ho, hc, n, hd⟩, hs⟩ := I.tuple hT
    simp only at hc hd
    subst hc hd
    refine wpAny_binaryOp_repeat_ref (T := "tuple") (U := "int") (by decide) ⟨_, ho, rfl⟩ (fun s' => typeIs_int s' 1 t) noFill_tuple_mul F.fills_int_mul F.slot_int_rmul repeat_tuple F.slot_int_index.lookup
      (call_meets F.slot_int_rmul (typeIs_int s 1 t) F.entry_int_rmul (F.args_int_rmul_2 _ _) (int_rmul_tuple 1 t l its.toArray n dd sl)
        ⟨ho, rfl, ⟨_, ho, rfl⟩, call_meets F.slot_tuple_mul ⟨_, ho, rfl⟩ F.entry_tuple_mul (F.args_tuple_mul_2 _ _) (tuple_mul1 l its.toArray n dd sl t) ⟨ho, ?_⟩⟩)
    exact ⟨.ref l, _, I, rfl, q1 rfl⟩
  · exact op_repT pins s σ H _ _ v u Q I rx ry ⟨l, k, xs, rfl, rfl, hT, hne, by omega, h2, hz, q2 (by omega)⟩
end L2

set_option Elab.async false
set_option linter.all false
set_option maxRecDepth 100000
set_option autoImplicit true
/-! W2a: operators. -/
namespace Wp
open PySem PySem.Spec PyProof.Rows L2

theorem sx_len (a : Tx) : (sx a).length = a.length := by simp [sx, Str.length]
theorem sx_app (a b : Tx) : sx a ++ sx b = sx (a ++ b) := by
  show (⟨(sx a).cps ++ (sx b).cps⟩ : Str) = _
  simp [sx]
theorem sx_inj {a b : Tx} (h : sx a = sx b) : a = b := by
  have := congrArg Str.cps h
  simpa [sx] using this

section
variable {X : Cx}
def rAdd (K : Frag) : R2 := fun x y H Q => rI0 (fun i j => .int (i + j)) x y H Q ∨ (∃ i j, x = V.str i ∧ y = V.str j ∧ i.length + j.length ≤ sizeLine ∧ Q (.str (i ++ j)) H) ∨ rCatA K x y H Q ∨ rCat x y H Q
theorem op_addA : OpR X (binaryOp .Add) (rAdd X.K) := op_add.or (op_add_str.or (op_catA.or op_cat))
theorem prim_add {K : Frag} : PrimN K .n (rr2 (rAdd K)) P.add.f := by
  refine prim2 (fun _ => rfl) (fun _ _ _ => rfl) fun F m μ H x y a b res Q S r1 r2 e q => ?_
  cases a <;> cases b <;> try (cases e; done)
  · cases r1.int
    cases r2.int
    cases e
    exact .inl ⟨_, _, rfl, rfl, q F H _ (Same.refl F) S (.int _)⟩
  · rename_i a b
    cases r1.str
    cases r2.str
    have e : (if a.length + b.length ≤ SL then some (D.str (a ++ b)) else none) = some res := e
    split at e
    · rename_i h
      cases e
      refine .inr (.inl ⟨_, _, rfl, rfl, by rw [sx_len, sx_len, ← sl_eq]; exact h, ?_⟩)
      rw [sx_app]
      exact q F H _ (Same.refl F) S (.str _)
    · cases e
  · rename_i a b
    have e : (if a.length + b.length ≤ SL then some (D.tup (a ++ b)) else none) = some res := e
    split at e
    · rename_i h
      cases e
      obtain ⟨p, vs, rfl, h1, h2⟩ := S.seqT r1
      obtain ⟨p', us, rfl, h3, h4⟩ := S.seqT r2
      have R1 : Rep K F (.ref p) (.tup a) := by
        rcases r1 with r | ⟨_, _, _, _, z, _⟩
        · exact r
        · cases z
      have R2 : Rep K F (.ref p') (.tup b) := by
        rcases r2 with r | ⟨_, _, _, _, z, _⟩
        · exact r
        · cases z
      refine .inr (.inr (.inl ⟨p, p', vs, us, rfl, rfl, h1, h3, by rw [h2.length, h4.length, ← sl_eq]; exact h, fun hv => ?_, fun hv hu => ?_, fun hv hu t ht => ?_⟩))
      · subst hv
        cases h2
        exact q F H _ (Same.refl F) S R2
      · subst hu
        cases h4
        exact q F H _ (Same.refl F) S (by rw [List.append_nil]; exact R1)
      · obtain ⟨sF, S2⟩ := S.frozen (o := .tup (vs ++ us)) ht
        exact q _ _ _ sF S2 (.tup (.of upd_same) ((h2.append h4).mono sF))
    · cases e
  · rename_i a b
    have e : (if a.length + b.length ≤ SL then some (D.lst (a ++ b)) else none) = some res := e
    split at e
    · rename_i h
      cases e
      obtain ⟨p, vs, rfl, h1, h2⟩ := S.lstH r1
      obtain ⟨p', us, rfl, h3, h4⟩ := S.lstH r2
      exact .inr (.inr (.inr ⟨p, p', vs, us, rfl, rfl, h1, h3, by rw [h2.length, h4.length, ← sl_eq]; exact h, fun t ht =>
        q F _ _ (Same.refl F) (S.laid ht) ⟨t, _, rfl, upd_same, h2.append h4, S.sub.free ht, fun i c e1 e2 => S.notCell ht i c e1 e2⟩⟩))
    · cases e
theorem prim_sub {K : Frag} : PrimN K .v (rr2 (rI0 fun i j => .int (i - j))) P.sub.f := by
  refine prim2 (fun _ => rfl) (fun _ _ _ => rfl) fun F m μ H x y a b res Q S r1 r2 e q => ?_
  cases a <;> cases b <;> try (cases e; done)
  cases r1.int
  cases r2.int
  cases e
  exact ⟨_, _, rfl, rfl, q F H _ (Same.refl F) S (.int _)⟩
def rMul (K : Frag) : R2 := fun x y H Q => rI CMulW (fun i j => .int (i * j)) x y H Q ∨ rRep x y H Q ∨ rRepU K x y H Q
theorem op_mulA : OpR X (binaryOp .Mult) (rMul X.K) := op_mulW.or (op_rep.or op_repU)
theorem Reps.flat {K : Frag} {F : Hp} {vs : List V} {ds : List D} (r : Reps K F vs ds) : ∀ n, Reps K F (List.replicate n vs).flatten (rep ds n)
  | 0 => .nil
  | n + 1 => by
    unfold rep
    rw [List.replicate_succ, List.replicate_succ, List.flatten_cons, List.flatten_cons]
    exact r.append (Reps.flat r n)
theorem prim_mul {K : Frag} : PrimN K .n (rr2 (rMul K)) P.mul.f := by
  refine prim2 (fun _ => rfl) (fun _ _ _ => rfl) fun F m μ H x y a b res Q S r1 r2 e q => ?_
  cases a <;> cases b <;> try (cases e; done)
  · rename_i a b
    cases r1.int
    cases r2.int
    have e : (if mulOk a b then some (D.int (a * b)) else none) = some res := e
    split at e
    · rename_i h
      cases e
      exact .inl ⟨_, _, rfl, rfl, of_decide_eq_true (p := a.natAbs.log2 + b.natAbs.log2 < 1000000) h, q F H _ (Same.refl F) S (.int _)⟩
    · cases e
  · rename_i a b
    have e : (if a.isEmpty = false ∧ 1 ≤ b ∧ b ≤ 1000 ∧ a.length ≤ 1000 then some (D.tup (rep a b.toNat)) else none) = some res := e
    split at e
    · rename_i h
      cases e
      obtain ⟨p, vs, rfl, h1, h2⟩ := S.seqT r1
      cases r2.int
      have R1 : Rep K F (.ref p) (.tup a) := by
        rcases r1 with r | ⟨_, _, _, _, z, _⟩
        · exact r
        · cases z
      refine .inr (.inr ⟨p, b, vs, rfl, rfl, h1, ?_, h.2.1, h.2.2.1, by rw [h2.length]; exact h.2.2.2, fun hb => ?_, fun hb t ht => ?_⟩)
      · intro hv
        have := h2.length
        rw [hv] at this
        have h0 := h.1
        cases a with
        | nil => cases h0
        | cons x a => cases this
      · subst hb
        have : rep a (1 : Int).toNat = a := by
          show (List.replicate 1 a).flatten = a
          simp
        rw [this] at q
        exact q F H _ (Same.refl F) S R1
      · obtain ⟨sF, S2⟩ := S.frozen (o := .tup (List.replicate b.toNat vs).flatten) ht
        exact q _ _ _ sF S2 (.tup (.of upd_same) ((h2.flat _).mono sF))
    · cases e
  · rename_i a b
    have e : (if (-(2 ^ 63) ≤ b ∧ b < 2 ^ 63) ∧ a.length * b.toNat ≤ SL then some (D.lst (rep a b.toNat)) else none) = some res := e
    split at e
    · rename_i h
      cases e
      obtain ⟨p, vs, rfl, h1, h2⟩ := S.lstH r1
      cases r2.int
      exact .inr (.inl ⟨p, b, vs, rfl, rfl, h1, h.1.1, h.1.2, by rw [h2.length, ← sl_eq]; exact h.2, fun t ht =>
        q F _ _ (Same.refl F) (S.laid ht) ⟨t, _, rfl, upd_same, h2.flat _, S.sub.free ht, fun i c e1 e2 => S.notCell ht i c e1 e2⟩⟩)
    · cases e
/-- // of any sign, of a divisor of less than 9000 bits -/
def CDivZ (_ j : Int) : Prop := j ≠ 0 ∧ j.natAbs.log2 < 9000
theorem op_fdivZ : OpR X (binaryOp .FloorDiv) (rI CDivZ fun i j => .int (i.fdiv j)) := opI fun i j _ _ _ _ _ hc q => by
  exact floordiv_int hc.1 q (.inl (PyProof.noPylong_of_log2 hc.2))
theorem prim_fdiv {K : Frag} : PrimN K .v (rr2 (rI CDivZ fun i j => .int (i.fdiv j))) P.fdiv.f := by
  refine prim2 (fun _ => rfl) (fun _ _ _ => rfl) fun F m μ H x y a b res Q S r1 r2 e q => ?_
  cases a <;> cases b <;> try (cases e; done)
  rename_i a b
  cases r1.int
  cases r2.int
  have e : (if divOk b then some (D.int (a.fdiv b)) else none) = some res := e
  split at e
  · rename_i h
    cases e
    unfold divOk at h
    rw [Bool.and_eq_true, decide_eq_true_eq, decide_eq_true_eq] at h
    exact ⟨_, _, rfl, rfl, h, q F H _ (Same.refl F) S (.int _)⟩
  · cases e
theorem prim_mod {K : Frag} : PrimN K .v (rr2 (rI (fun _ j => j ≠ 0) fun i j => .int (i.fmod j))) P.mod.f := by
  refine prim2 (fun _ => rfl) (fun _ _ _ => rfl) fun F m μ H x y a b res Q S r1 r2 e q => ?_
  cases a <;> cases b <;> try (cases e; done)
  rename_i a b
  cases r1.int
  cases r2.int
  have e : (if b ≠ 0 then some (D.int (a.fmod b)) else none) = some res := e
  split at e
  · rename_i h
    cases e
    exact ⟨_, _, rfl, rfl, h, q F H _ (Same.refl F) S (.int _)⟩
  · cases e
theorem prim_pow {K : Frag} : PrimN K .v (rr2 (rI CPow fun i j => .int (i ^ j.toNat))) P.pow.f := by
  refine prim2 (fun _ => rfl) (fun _ _ _ => rfl) fun F m μ H x y a b res Q S r1 r2 e q => ?_
  cases a <;> cases b <;> try (cases e; done)
  rename_i a b
  cases r1.int
  cases r2.int
  have e : (if (0 ≤ b ∧ b ≤ 1000000) ∧ a.natAbs < 2 ^ 64 then some (D.int (a ^ b.toNat)) else none) = some res := e
  split at e
  · rename_i h
    cases e
    exact ⟨_, _, rfl, rfl, ⟨h.1.1, h.1.2, h.2⟩, q F H _ (Same.refl F) S (.int _)⟩
  · cases e
theorem prim_neg {K : Frag} : PrimN K .v (rr1 (rU fun i => .int (-i))) P.neg.f := by
  refine prim1 (fun _ _ => rfl) (fun _ _ _ => rfl) fun F m μ H x a res Q S r1 e q => ?_
  cases a <;> try (cases e; done)
  cases r1.int
  cases e
  exact ⟨_, rfl, q F H _ (Same.refl F) S (.int _)⟩
theorem prim_lt {K : Frag} : PrimN K .v (rr2 (rI0 fun i j => .bl (decide (i < j)))) P.lt.f := by
  refine prim2 (fun _ => rfl) (fun _ _ _ => rfl) fun F m μ H x y a b res Q S r1 r2 e q => ?_
  cases a <;> cases b <;> try (cases e; done)
  cases r1.int
  cases r2.int
  cases e
  exact ⟨_, _, rfl, rfl, q F H _ (Same.refl F) S (.bl _)⟩
theorem prim_le {K : Frag} : PrimN K .v (rr2 (rI0 fun i j => .bl (decide (i ≤ j)))) P.le.f := by
  refine prim2 (fun _ => rfl) (fun _ _ _ => rfl) fun F m μ H x y a b res Q S r1 r2 e q => ?_
  cases a <;> cases b <;> try (cases e; done)
  cases r1.int
  cases r2.int
  cases e
  exact ⟨_, _, rfl, rfl, q F H _ (Same.refl F) S (.bl _)⟩
theorem prim_gt {K : Frag} : PrimN K .v (rr2 (rI0 fun i j => .bl (decide (j < i)))) P.gt.f := by
  refine prim2 (fun _ => rfl) (fun _ _ _ => rfl) fun F m μ H x y a b res Q S r1 r2 e q => ?_
  cases a <;> cases b <;> try (cases e; done)
  cases r1.int
  cases r2.int
  cases e
  exact ⟨_, _, rfl, rfl, q F H _ (Same.refl F) S (.bl _)⟩
theorem prim_ge {K : Frag} : PrimN K .v (rr2 (rI0 fun i j => .bl (decide (j ≤ i)))) P.ge.f := by
  refine prim2 (fun _ => rfl) (fun _ _ _ => rfl) fun F m μ H x y a b res Q S r1 r2 e q => ?_
  cases a <;> cases b <;> try (cases e; done)
  cases r1.int
  cases r2.int
  cases e
  exact ⟨_, _, rfl, rfl, q F H _ (Same.refl F) S (.bl _)⟩

/-! ### data of any depth -/
mutual
def toPy : D → PyData
  | .non => .none
  | .bl b => .bool b
  | .int i => .int i
  | .str s => .str (sx s)
  | .tup xs => .tuple (toPys xs)
  | .lst xs => .list (toPys xs)
  | .fn _ => .none
  | .exc _ _ => .none
  | .frz _ => .none
def toPys : List D → List PyData
  | [] => []
  | x :: xs => toPy x :: toPys xs
end
mutual
theorem rep_dp {K : Frag} {F H : Hp} (s : Same F H) : ∀ (n : Nat) {v : V} {d : D}, Rep K F v d → D.okN n d = true → Dp K H v (toPy d)
  | _, _, _, .non, _ => by rw [toPy]; exact .non
  | _, _, _, .bl b, _ => by rw [toPy]; exact .bl b
  | _, _, _, .int i, _ => by rw [toPy]; exact .int i
  | _, _, _, .str x, _ => by rw [toPy]; exact .str _
  | 0, _, _, .tup h r, e => by simp [D.okN] at e
  | n + 1, _, _, .tup h r, e => by rw [toPy]; exact .tup (same_tup s h) (reps_dp s n r (by simpa [D.okN] using e))
  | 0, _, _, .lst h r, e => by simp [D.okN] at e
  | n + 1, _, _, .lst h r, e => by rw [toPy]; exact .lst (.of (s _ _ h)) (reps_dp s n r (by simpa [D.okN] using e))
  | _, _, _, .fn x, e => by simp [D.okN] at e
  | _, _, _, .frz h r, e => by simp [D.okN] at e
theorem reps_dp {K : Frag} {F H : Hp} (s : Same F H) : ∀ (n : Nat) {vs : List V} {ds : List D}, Reps K F vs ds → D.okNs n ds = true → DpAll K H vs (toPys ds)
  | _, _, _, .nil, _ => by rw [toPys]; exact .nil
  | n, _, _, .cons a b, e => by
    rw [D.okNs, Bool.and_eq_true] at e
    rw [toPys]; exact .cons (rep_dp s n a e.1) (reps_dp s n b e.2)
end
mutual
theorem lay_of : ∀ (n : Nat) (d : D), D.okN n d = true → (toPy d).canLay0 = true ∧ (toPy d).depth ≤ n
  | n, .non, _ => by simp [toPy, PyData.canLay0, PyData.depth]
  | n, .bl _, _ => by simp [toPy, PyData.canLay0, PyData.depth]
  | n, .int _, _ => by simp [toPy, PyData.canLay0, PyData.depth]
  | n, .str s, h => by
    have h : s.all (· < 1114112) = true := by simpa [D.okN] using h
    refine ⟨?_, by simp [toPy, PyData.depth]⟩
    simp only [toPy, PyData.canLay0, PyData.strOk, sx]
    simpa using h
  | 0, .tup _, h => by simp [D.okN] at h
  | 0, .lst _, h => by simp [D.okN] at h
  | n + 1, .tup xs, h => by
    obtain ⟨h1, h2⟩ := lays_of n xs (by simpa [D.okN] using h)
    simp only [toPy, PyData.canLay0, PyData.depth]
    exact ⟨h1, by omega⟩
  | n + 1, .lst xs, h => by
    obtain ⟨h1, h2⟩ := lays_of n xs (by simpa [D.okN] using h)
    simp only [toPy, PyData.canLay0, PyData.depth]
    exact ⟨h1, by omega⟩
  | n, .fn _, h => by simp [D.okN] at h
  | n, .exc _ _, h => by simp [D.okN] at h
  | n, .frz _, h => by simp [D.okN] at h
theorem lays_of : ∀ (n : Nat) (ds : List D), D.okNs n ds = true → PyData.canLayAll0 (toPys ds) = true ∧ PyData.depthAll (toPys ds) ≤ n
  | n, [], _ => by simp [toPys, PyData.canLayAll0, PyData.depthAll]
  | n, d :: ds, h => by
    rw [D.okNs, Bool.and_eq_true] at h
    obtain ⟨h1, h2⟩ := lay_of n d h.1
    obtain ⟨h3, h4⟩ := lays_of n ds h.2
    simp only [toPys, PyData.canLayAll0, PyData.depthAll, h1, h3]
    exact ⟨rfl, by omega⟩
end
theorem shaped_of {d : D} (h : okD d = true) : SeqAt.shaped (toPy d) = true := by
  obtain ⟨h1, h2⟩ := lay_of 60 d h
  unfold SeqAt.shaped
  rw [h1, Bool.true_and, decide_eq_true_eq]
  omega
mutual
theorem eqv_py : ∀ (n : Nat) (d e : D), D.okN n d = true → D.okN n e = true → PyData.eqv (toPy d) (toPy e) = D.eqv d e
  | n, .fn _, _, h, _ => by simp [D.okN] at h
  | n, .exc _ _, _, h, _ => by simp [D.okN] at h
  | n, .frz _, _, h, _ => by simp [D.okN] at h
  | n, d, .fn _, _, h => by simp [D.okN] at h
  | n, d, .exc _ _, _, h => by simp [D.okN] at h
  | n, d, .frz _, _, h => by simp [D.okN] at h
  | 0, .tup _, _, h, _ => by simp [D.okN] at h
  | 0, .lst _, _, h, _ => by simp [D.okN] at h
  | n + 1, .tup xs, .tup ys, h, k => by
    simp only [toPy, PyData.eqv, D.eqv]
    exact eqvs_py n xs ys (by simpa [D.okN] using h) (by simpa [D.okN] using k)
  | n + 1, .lst xs, .lst ys, h, k => by
    simp only [toPy, PyData.eqv, D.eqv]
    exact eqvs_py n xs ys (by simpa [D.okN] using h) (by simpa [D.okN] using k)
  | n, .str a, .str b, _, _ => by
    simp only [toPy, PyData.eqv, D.eqv]
    rw [Bool.eq_iff_iff]
    simp only [beq_iff_eq]
    exact ⟨sx_inj, fun h => by rw [h]⟩
  | n, .non, .non, _, _ => by simp [toPy, PyData.eqv, D.eqv]
  | n, .non, .bl _, _, _ => by simp [toPy, PyData.eqv, D.eqv]
  | n, .non, .int _, _, _ => by simp [toPy, PyData.eqv, D.eqv]
  | n, .non, .str _, _, _ => by simp [toPy, PyData.eqv, D.eqv]
  | n, .non, .tup _, _, _ => by simp [toPy, PyData.eqv, D.eqv]
  | n, .non, .lst _, _, _ => by simp [toPy, PyData.eqv, D.eqv]
  | n, .bl _, .non, _, _ => by simp [toPy, PyData.eqv, D.eqv]
  | n, .bl _, .bl _, _, _ => by simp [toPy, PyData.eqv, D.eqv]
  | n, .bl _, .int _, _, _ => by simp [toPy, PyData.eqv, D.eqv]
  | n, .bl _, .str _, _, _ => by simp [toPy, PyData.eqv, D.eqv]
  | n, .bl _, .tup _, _, _ => by simp [toPy, PyData.eqv, D.eqv]
  | n, .bl _, .lst _, _, _ => by simp [toPy, PyData.eqv, D.eqv]
  | n, .int _, .non, _, _ => by simp [toPy, PyData.eqv, D.eqv]
  | n, .int _, .bl _, _, _ => by simp [toPy, PyData.eqv, D.eqv]
  | n, .int _, .int _, _, _ => by simp [toPy, PyData.eqv, D.eqv]
  | n, .int _, .str _, _, _ => by simp [toPy, PyData.eqv, D.eqv]
  | n, .int _, .tup _, _, _ => by simp [toPy, PyData.eqv, D.eqv]
  | n, .int _, .lst _, _, _ => by simp [toPy, PyData.eqv, D.eqv]
  | n, .str _, .non, _, _ => by simp [toPy, PyData.eqv, D.eqv]
  | n, .str _, .bl _, _, _ => by simp [toPy, PyData.eqv, D.eqv]
  | n, .str _, .int _, _, _ => by simp [toPy, PyData.eqv, D.eqv]
  | n, .str _, .tup _, _, _ => by simp [toPy, PyData.eqv, D.eqv]
  | n, .str _, .lst _, _, _ => by simp [toPy, PyData.eqv, D.eqv]
  | n, .tup _, .non, _, _ => by simp [toPy, PyData.eqv, D.eqv]
  | n, .tup _, .bl _, _, _ => by simp [toPy, PyData.eqv, D.eqv]
  | n, .tup _, .int _, _, _ => by simp [toPy, PyData.eqv, D.eqv]
  | n, .tup _, .str _, _, _ => by simp [toPy, PyData.eqv, D.eqv]
  | n, .tup _, .lst _, _, _ => by simp [toPy, PyData.eqv, D.eqv]
  | n, .lst _, .non, _, _ => by simp [toPy, PyData.eqv, D.eqv]
  | n, .lst _, .bl _, _, _ => by simp [toPy, PyData.eqv, D.eqv]
  | n, .lst _, .int _, _, _ => by simp [toPy, PyData.eqv, D.eqv]
  | n, .lst _, .str _, _, _ => by simp [toPy, PyData.eqv, D.eqv]
  | n, .lst _, .tup _, _, _ => by simp [toPy, PyData.eqv, D.eqv]
theorem eqvs_py : ∀ (n : Nat) (ds es : List D), D.okNs n ds = true → D.okNs n es = true → PyData.eqvAll (toPys ds) (toPys es) = D.eqvs ds es
  | n, [], [], _, _ => by simp [toPys, PyData.eqvAll, D.eqvs]
  | n, [], _ :: _, _, _ => by simp [toPys, PyData.eqvAll, D.eqvs]
  | n, _ :: _, [], _, _ => by simp [toPys, PyData.eqvAll, D.eqvs]
  | n, d :: ds, e :: es, h, k => by
    rw [D.okNs, Bool.and_eq_true] at h k
    simp only [toPys, PyData.eqvAll, D.eqvs]
    rw [eqv_py n d e h.1 k.1, eqvs_py n ds es h.2 k.2]
end
theorem rn_dp {K : Frag} {F H : Hp} {m : List Addr} {μ : Mu} (S : Sim K F m μ H) {v : V} {d : D} (r : Rn K F H v d) {n : Nat} (h : D.okN n d = true) : Dp K H v (toPy d) := by
  rcases r with r | ⟨a, vs, ds, rfl, rfl, h1, h2⟩
  · exact rep_dp S.sub n r h
  · cases n with
    | zero => simp [D.okN] at h
    | succ n =>
      rw [toPy]
      exact .lst (.of h1) (reps_dp S.sub n h2 (by simpa [D.okN] using h))
end
end Wp

set_option Elab.async false
set_option linter.all false
set_option maxRecDepth 100000
set_option autoImplicit true
/-! W2b: equality, in, is, isinstance; len, index, slices; conversions. -/
namespace Wp
open PySem PySem.Spec PyProof.Rows L2

section
variable {X : Cx}
theorem if_some {c : Bool} {x res : D} (e : (if c = true then some x else none) = some res) : c = true ∧ res = x := by
  cases c with
  | true => exact ⟨rfl, (Option.some.inj e).symm⟩
  | false => cases e
theorem eq_f2 (a b : D) : P.eq.f2 a b = (match a, b with | .str s, .str t => some (.bl (s == t)) | a, b => if okD a && okD b then some (.bl (D.eqv a b)) else none) := by
  cases a <;> cases b <;> rfl
theorem eq_e {a b res : D} (e : P.eq.f2 a b = some res) : (∃ s t, a = .str s ∧ b = .str t ∧ res = .bl (s == t)) ∨ (okD a = true ∧ okD b = true ∧ res = .bl (D.eqv a b)) := by
  rw [eq_f2] at e
  split at e
  · exact .inl ⟨_, _, rfl, rfl, (Option.some.inj e).symm⟩
  · obtain ⟨h, r⟩ := if_some e
    rw [Bool.and_eq_true] at h
    exact .inr ⟨h.1, h.2, r⟩
theorem ne_f2 (a b : D) : P.ne.f2 a b = (match a, b with | .str s, .str t => some (.bl (!(s == t))) | a, b => if okD a && okD b then some (.bl (!D.eqv a b)) else none) := by
  cases a <;> cases b <;> rfl
theorem ne_e {a b res : D} (e : P.ne.f2 a b = some res) : (∃ s t, a = .str s ∧ b = .str t ∧ res = .bl (!(s == t))) ∨ (okD a = true ∧ okD b = true ∧ res = .bl (!D.eqv a b)) := by
  rw [ne_f2] at e
  split at e
  · exact .inl ⟨_, _, rfl, rfl, (Option.some.inj e).symm⟩
  · obtain ⟨h, r⟩ := if_some e
    rw [Bool.and_eq_true] at h
    exact .inr ⟨h.1, h.2, r⟩
def rEqA (K : Frag) : R2 := fun x y H Q => rEq x y H Q ∨ rEqD K x y H Q
def rNeA (K : Frag) : R2 := fun x y H Q => rNe x y H Q ∨ rNeD K x y H Q
theorem op_eqA (hu : X.A.units + 64 < cLine) : OpR X (compareOp .Eq) (rEqA X.K) := op_eq.or (op_eqD hu)
theorem op_neA (hu : X.A.units + 64 < cLine) : OpR X (compareOp .NotEq) (rNeA X.K) := op_ne.or (op_neD hu)
theorem dec_sx (s t : Tx) : decide (V.str (sx s) = V.str (sx t)) = (s == t) := by
  rw [Bool.eq_iff_iff]
  simp only [decide_eq_true_eq, beq_iff_eq, V.str.injEq]
  exact ⟨sx_inj, fun h => by rw [h]⟩
theorem prim_eq {K : Frag} : PrimN K .v (rr2 (rEqA K)) P.eq.f := by
  refine prim2 (fun _ => rfl) (fun _ _ _ => rfl) fun F m μ H x y a b res Q S r1 r2 e q => ?_
  rcases eq_e e with ⟨s, t, rfl, rfl, rfl⟩ | ⟨h1, h2, rfl⟩
  · cases r1.str
    cases r2.str
    refine .inl ⟨rfl, ?_⟩
    rw [dec_sx]
    exact q F H _ (Same.refl F) S (.bl _)
  · refine .inr ⟨_, _, rn_dp S r1 h1, rn_dp S r2 h2, shaped_of h1, shaped_of h2, ?_⟩
    rw [eqv_py 60 a b h1 h2]
    exact q F H _ (Same.refl F) S (.bl _)
theorem prim_ne {K : Frag} : PrimN K .v (rr2 (rNeA K)) P.ne.f := by
  refine prim2 (fun _ => rfl) (fun _ _ _ => rfl) fun F m μ H x y a b res Q S r1 r2 e q => ?_
  rcases ne_e e with ⟨s, t, rfl, rfl, rfl⟩ | ⟨h1, h2, rfl⟩
  · cases r1.str
    cases r2.str
    refine .inl ⟨rfl, ?_⟩
    rw [dec_sx]
    exact q F H _ (Same.refl F) S (.bl _)
  · refine .inr ⟨_, _, rn_dp S r1 h1, rn_dp S r2 h2, shaped_of h1, shaped_of h2, ?_⟩
    rw [eqv_py 60 a b h1 h2]
    exact q F H _ (Same.refl F) S (.bl _)
/-! ### in -/
def rInT (K : Frag) : R2 := fun x y H Q => ∃ d ds, Dp K H x d ∧ Dp K H y (.tuple ds) ∧ SeqAt.shaped d = true ∧ SeqAt.shaped (.tuple ds) = true ∧ Q (.bl (ds.any fun z => PyData.eqv z d)) H
def rNotInT (K : Frag) : R2 := fun x y H Q => ∃ d ds, Dp K H x d ∧ Dp K H y (.tuple ds) ∧ SeqAt.shaped d = true ∧ SeqAt.shaped (.tuple ds) = true ∧ Q (.bl (!ds.any fun z => PyData.eqv z d)) H
theorem op_inT (hu : X.A.units + 65 < cLine) : OpR X (compareOp .In) (rInT X.K) := by
  intro pins s σ H x y v u Q I rx ry h
  obtain ⟨d, ds, hd, he, sd, se, q⟩ := h
  obtain ⟨as, r1⟩ := Dp.reads I d x v hd rx
  obtain ⟨bs, r2⟩ := Dp.reads I (.tuple ds) y u he ry
  exact SeqAt.in_tuple_reads r2 r1 (SeqAt.canLay_of_shaped se) (SeqAt.canLay_of_shaped sd) (room_in_shaped sd hu) ⟨.bl _, H, I, rfl, q⟩
theorem op_notInT (hu : X.A.units + 65 < cLine) : OpR X (compareOp .NotIn) (rNotInT X.K) := by
  intro pins s σ H x y v u Q I rx ry h
  obtain ⟨d, ds, hd, he, sd, se, q⟩ := h
  obtain ⟨as, r1⟩ := Dp.reads I d x v hd rx
  obtain ⟨bs, r2⟩ := Dp.reads I (.tuple ds) y u he ry
  exact SeqAt.notIn_tuple_reads r2 r1 (SeqAt.canLay_of_shaped se) (SeqAt.canLay_of_shaped sd) (room_in_shaped sd hu) ⟨.bl _, H, I, rfl, q⟩
def rInA (K : Frag) : R2 := fun x y H Q => rInD K x y H Q ∨ rInT K x y H Q ∨ ∃ (c : Nat) (z : Str), x = .str ⟨#[c]⟩ ∧ y = .str z ∧ Q (.bl (decide (c ∈ z.cps.toList))) H
def rNotInA (K : Frag) : R2 := fun x y H Q => rNotInD K x y H Q ∨ rNotInT K x y H Q ∨ ∃ (c : Nat) (z : Str), x = .str ⟨#[c]⟩ ∧ y = .str z ∧ Q (.bl (!decide (c ∈ z.cps.toList))) H
theorem op_inA (hu : X.A.units + 65 < cLine) : OpR X (compareOp .In) (rInA X.K) := (op_inD hu).or ((op_inT hu).or op_in_sign)
theorem op_notInA (hu : X.A.units + 65 < cLine) : OpR X (compareOp .NotIn) (rNotInA X.K) := (op_notInD hu).or ((op_notInT hu).or op_notIn_sign)
theorem inOf_e {a b : D} {k : Bool} (e : inOf a b = some k) : (∃ c t, a = .str [c] ∧ b = .str t ∧ k = t.contains c) ∨ (∃ l, b = .lst l ∧ okD a = true ∧ D.okNs 59 l = true ∧ k = l.any fun z => D.eqv z a) ∨ (∃ l, b = .tup l ∧ okD a = true ∧ D.okNs 59 l = true ∧ k = l.any fun z => D.eqv z a) := by
  unfold inOf at e
  split at e
  · split at e
    · rename_i h
      rw [Bool.and_eq_true] at h
      exact .inr (.inl ⟨_, rfl, h.1, h.2, (Option.some.inj e).symm⟩)
    · cases e
  · split at e
    · rename_i h
      rw [Bool.and_eq_true] at h
      exact .inr (.inr ⟨_, rfl, h.1, h.2, (Option.some.inj e).symm⟩)
    · cases e
  · split at e
    · exact .inl ⟨_, _, rfl, rfl, (Option.some.inj e).symm⟩
    · cases e
  · cases e
theorem in_e {a b res : D} (e : P.inn.f2 a b = some res) : ∃ k, inOf a b = some k ∧ res = .bl k := by
  have e : (inOf a b).map D.bl = some res := e
  cases h : inOf a b with
  | none => rw [h] at e; cases e
  | some k => rw [h] at e; exact ⟨k, rfl, (Option.some.inj e).symm⟩
theorem notin_e {a b res : D} (e : P.notin.f2 a b = some res) : ∃ k, inOf a b = some k ∧ res = .bl (!k) := by
  have e : (inOf a b).map (fun k => D.bl (!k)) = some res := e
  cases h : inOf a b with
  | none => rw [h] at e; cases e
  | some k => rw [h] at e; exact ⟨k, rfl, (Option.some.inj e).symm⟩
theorem any_py {a : D} (ha : D.okN 60 a = true) : ∀ {l : List D}, D.okNs 60 l = true → ((toPys l).any fun z => PyData.eqv z (toPy a)) = l.any fun z => D.eqv z a
  | [], _ => by simp [toPys]
  | x :: l, h => by
    rw [D.okNs, Bool.and_eq_true] at h
    rw [toPys, List.any_cons, List.any_cons, eqv_py 60 x a h.1 ha, any_py ha h.2]
mutual
theorem okN_mono : ∀ (n k : Nat) (d : D), n ≤ k → D.okN n d = true → D.okN k d = true
  | n, k, .non, _, h => by simp [D.okN]
  | n, k, .bl _, _, h => by simp [D.okN]
  | n, k, .int _, _, h => by simp [D.okN]
  | n, k, .str _, _, h => by simpa [D.okN] using h
  | 0, k, .tup _, _, h => by simp [D.okN] at h
  | 0, k, .lst _, _, h => by simp [D.okN] at h
  | n + 1, 0, .tup _, hk, h => by omega
  | n + 1, 0, .lst _, hk, h => by omega
  | n + 1, k + 1, .tup l, hk, h => by
    simp only [D.okN] at h ⊢
    exact okNs_mono n k l (by omega) h
  | n + 1, k + 1, .lst l, hk, h => by
    simp only [D.okN] at h ⊢
    exact okNs_mono n k l (by omega) h
  | n, k, .fn _, _, h => by simp [D.okN] at h
  | n, k, .exc _ _, _, h => by simp [D.okN] at h
  | n, k, .frz _, _, h => by simp [D.okN] at h
theorem okNs_mono : ∀ (n k : Nat) (ds : List D), n ≤ k → D.okNs n ds = true → D.okNs k ds = true
  | n, k, [], _, _ => by simp [D.okNs]
  | n, k, d :: ds, hk, h => by
    rw [D.okNs, Bool.and_eq_true] at h ⊢
    exact ⟨okN_mono n k d hk h.1, okNs_mono n k ds hk h.2⟩
end
theorem mem_sx (c : Nat) (t : Tx) : decide (c ∈ (sx t).cps.toList) = t.contains c := by
  rw [Bool.eq_iff_iff, List.contains_iff_mem, decide_eq_true_eq]
  rfl
theorem sx_one (c : Nat) : (⟨#[c]⟩ : Str) = sx [c] := rfl
theorem prim_in {K : Frag} : PrimN K .v (rr2 (rInA K)) P.inn.f := by
  refine prim2 (fun _ => rfl) (fun _ _ _ => rfl) fun F m μ H x y a b res Q S r1 r2 e q => ?_
  obtain ⟨k, e', rfl⟩ := in_e e
  rcases inOf_e e' with ⟨c, t, rfl, rfl, rfl⟩ | ⟨l, rfl, h1, h2, rfl⟩ | ⟨l, rfl, h1, h2, rfl⟩
  · cases r1.str
    cases r2.str
    refine .inr (.inr ⟨c, sx t, rfl, rfl, ?_⟩)
    rw [mem_sx]
    exact q F H _ (Same.refl F) S (.bl _)
  · have h3 : D.okN 60 (.lst l) = true := by simpa [D.okN] using h2
    have r3 := rn_dp S r2 h3
    have h4 := shaped_of h3
    rw [toPy] at r3 h4
    refine .inl ⟨_, _, rn_dp S r1 h1, r3, shaped_of h1, h4, ?_⟩
    rw [any_py h1 (okNs_mono 59 60 l (by omega) h2)]
    exact q F H _ (Same.refl F) S (.bl _)
  · have h3 : D.okN 60 (.tup l) = true := by simpa [D.okN] using h2
    have r3 := rn_dp S r2 h3
    have h4 := shaped_of h3
    rw [toPy] at r3 h4
    refine .inr (.inl ⟨_, _, rn_dp S r1 h1, r3, shaped_of h1, h4, ?_⟩)
    rw [any_py h1 (okNs_mono 59 60 l (by omega) h2)]
    exact q F H _ (Same.refl F) S (.bl _)
theorem prim_notin {K : Frag} : PrimN K .v (rr2 (rNotInA K)) P.notin.f := by
  refine prim2 (fun _ => rfl) (fun _ _ _ => rfl) fun F m μ H x y a b res Q S r1 r2 e q => ?_
  obtain ⟨k, e', rfl⟩ := notin_e e
  rcases inOf_e e' with ⟨c, t, rfl, rfl, rfl⟩ | ⟨l, rfl, h1, h2, rfl⟩ | ⟨l, rfl, h1, h2, rfl⟩
  · cases r1.str
    cases r2.str
    refine .inr (.inr ⟨c, sx t, rfl, rfl, ?_⟩)
    rw [mem_sx]
    exact q F H _ (Same.refl F) S (.bl _)
  · have h3 : D.okN 60 (.lst l) = true := by simpa [D.okN] using h2
    have r3 := rn_dp S r2 h3
    have h4 := shaped_of h3
    rw [toPy] at r3 h4
    refine .inl ⟨_, _, rn_dp S r1 h1, r3, shaped_of h1, h4, ?_⟩
    rw [any_py h1 (okNs_mono 59 60 l (by omega) h2)]
    exact q F H _ (Same.refl F) S (.bl _)
  · have h3 : D.okN 60 (.tup l) = true := by simpa [D.okN] using h2
    have r3 := rn_dp S r2 h3
    have h4 := shaped_of h3
    rw [toPy] at r3 h4
    refine .inr (.inl ⟨_, _, rn_dp S r1 h1, r3, shaped_of h1, h4, ?_⟩)
    rw [any_py h1 (okNs_mono 59 60 l (by omega) h2)]
    exact q F H _ (Same.refl F) S (.bl _)

/-! ### is None, is True -/
theorem rn_notNon {K : Frag} {F H : Hp} {v : V} {d : D} (r : Rn K F H v d) (h : d ≠ .non) : v ≠ .non := by
  rcases r with r | ⟨a, vs, ds, rfl, rfl, _⟩
  · cases r <;> first
      | exact (h rfl).elim
      | (intro z; cases z)
  · intro z; cases z
theorem isN_e {a res : D} (e : P.isN.f1 a = some res) : (a = .non ∧ res = .bl true) ∨ (a ≠ .non ∧ res = .bl false) := by
  cases a <;> first
    | exact .inl ⟨rfl, (Option.some.inj e).symm⟩
    | exact .inr ⟨by simp, (Option.some.inj e).symm⟩
    | cases e
theorem notN_e {a res : D} (e : P.notN.f1 a = some res) : (a = .non ∧ res = .bl false) ∨ (a ≠ .non ∧ res = .bl true) := by
  cases a <;> first
    | exact .inl ⟨rfl, (Option.some.inj e).symm⟩
    | exact .inr ⟨by simp, (Option.some.inj e).symm⟩
    | cases e
theorem prim_isN {K : Frag} : PrimN K .v (rr1 fun x H Q => Q (.bl (decide (x = .non))) H) P.isN.f := by
  refine prim1 (fun _ _ => rfl) (fun _ _ _ => rfl) fun F m μ H x a res Q S r1 e q => ?_
  rcases isN_e e with ⟨rfl, rfl⟩ | ⟨h, rfl⟩
  · cases r1.non
    exact q F H _ (Same.refl F) S (.bl _)
  · rw [decide_eq_false (rn_notNon r1 h)]
    exact q F H _ (Same.refl F) S (.bl _)
theorem prim_notN {K : Frag} : PrimN K .v (rr1 fun x H Q => Q (.bl (!decide (x = .non))) H) P.notN.f := by
  refine prim1 (fun _ _ => rfl) (fun _ _ _ => rfl) fun F m μ H x a res Q S r1 e q => ?_
  rcases notN_e e with ⟨rfl, rfl⟩ | ⟨h, rfl⟩
  · cases r1.non
    exact q F H _ (Same.refl F) S (.bl _)
  · rw [decide_eq_false (rn_notNon r1 h)]
    exact q F H _ (Same.refl F) S (.bl _)
theorem prim_isB {K : Frag} : PrimN K .v (rr2 rIsB) P.isB.f := by
  refine prim2 (fun _ => rfl) (fun _ _ _ => rfl) fun F m μ H x y a b res Q S r1 r2 e q => ?_
  cases a <;> cases b <;> try (cases e; done)
  cases r1.bl
  cases r2.bl
  cases e
  exact ⟨_, _, rfl, rfl, q F H _ (Same.refl F) S (.bl _)⟩
theorem prim_notB {K : Frag} : PrimN K .v (rr2 rNotB) P.notB.f := by
  refine prim2 (fun _ => rfl) (fun _ _ _ => rfl) fun F m μ H x y a b res Q S r1 r2 e q => ?_
  cases a <;> cases b <;> try (cases e; done)
  cases r1.bl
  cases r2.bl
  cases e
  exact ⟨_, _, rfl, rfl, q F H _ (Same.refl F) S (.bl _)⟩
end
end Wp

set_option Elab.async false
set_option linter.all false
set_option maxRecDepth 100000
set_option autoImplicit true
/-! W2c: isinstance, len, subscripts, slices, conversions. -/
namespace Wp
open PySem PySem.Spec PyProof.Rows L2

section
variable {X : Cx} {W : WX} {e a b c : Expr} {es : List Expr} {A B C : E} {pos : Pos}

def D.tn : D → Option String
  | .non => some "NoneType"
  | .bl _ => some "bool"
  | .int _ => some "int"
  | .str _ => some "str"
  | .tup _ => some "tuple"
  | .lst _ => some "list"
  | _ => none
def Ty.tn : Ty → String
  | .int => "int" | .bool => "bool" | .str => "str" | .tuple => "tuple" | .list => "list" | .dict => "dict"
theorem rn_ty {K : Frag} {F H : Hp} {m : List Addr} {μ : Mu} (S : Sim K F m μ H) {v : V} {d : D} {n : String} (r : Rn K F H v d) (h : d.tn = some n) : TyX K H v (.type n) := by
  cases d with
  | non => cases r.non; cases h; exact .base .non
  | bl b => cases r.bl; cases h; exact .base (.bl _)
  | int i => cases r.int; cases h; exact .base (.int _)
  | str s => cases r.str; cases h; exact .base (.str _)
  | tup xs =>
    cases h
    obtain ⟨a, vs, rfl, h1, h2⟩ := S.seqT r
    rcases h1 with (h1 | ⟨o, h1⟩) | ⟨o, its, k, h1, h2, _⟩
    · exact .base (.tup h1)
    · exact .fTuple h1
    · exact .kTuple h1 h2
  | lst xs =>
    cases h
    obtain ⟨a, vs, rfl, h1, h2⟩ := S.lstH r
    exact .base (.lst h1)
  | fn x => cases h
  | exc c v => cases h
  | frz xs => cases h
theorem kit_one {K : Frag} : ∀ (d : D) (t : Ty) (n : String), d.tn = some n → PySem.W.kitOne K (.type n) (.type t.tn) = some (isTy d t) := by
  intro d t n h
  have g1 : ∀ (a b : String) (k : Bool), kitB a b = some k → PySem.W.kitOne K (.type a) (.type b) = some k := fun a b k h => kit_ty h
  cases d <;> cases h <;> cases t <;> first
    | exact g1 _ _ true (by decide +kernel)
    | exact g1 _ _ false (by decide +kernel)
theorem kit_any {K : Frag} (d : D) (n : String) (h : d.tn = some n) : ∀ ts : List Ty, PySem.W.kitAny K (.type n) (ts.map fun t => .type t.tn) = some (ts.any (isTy d))
  | [] => rfl
  | t :: ts => by
    rw [List.map_cons]
    refine kitAny_cons (kit_one d t n h) (fun hb => ?_) fun hb => ?_
    · rw [List.any_cons, hb, Bool.false_or]
      exact kit_any d n h ts
    · rw [List.any_cons, hb, Bool.true_or]
theorem isi_e {ts : List Ty} {d res : D} (e : (P.isinst ts).f1 d = some res) : ∃ n, d.tn = some n ∧ res = .bl (ts.any (isTy d)) := by
  cases d <;> first
    | exact ⟨_, rfl, (Option.some.inj e).symm⟩
    | cases e
theorem clsV_all : ∀ ts : List Ty, Paired ClsV (ts.map fun t => V.ty t.tn) (ts.map fun t => Value.type t.tn)
  | [] => .nil
  | t :: ts => .cons (.ty _) (clsV_all ts)
/-- the one operand of tE (.prim p [A]), computed -/
theorem tE_prim1 {K : Frag} {p : P} {σ : L2.St} {H : Hp} {Q : VK} (h : tE K W .v (.prim p [A]) σ H Q) :
    tE K W .v A σ H fun x H1 => ∃ F m μ d res, Sim K F m μ H1 ∧ Rn K F H1 x d ∧ p.f1 d = some res ∧ ∀ F' H' v, Same F F' → Sim K F' m μ H' → Rep K F' v res → Q v H' := by
  obtain ⟨F, m, μ, ρ, S, R, h⟩ := h
  refine ⟨F, m, μ, ρ, S, R, ?_⟩
  rw [ev, evs.eq_2] at h
  cases e0 : ev A ρ μ with
  | no => rw [e0] at h; exact (show False from h).elim
  | exc c d μ' => rw [e0] at h; exact h
  | ok x μ' =>
    rw [e0] at h
    have h : Post K F m _ _ ((Res.bind (Res.bind (evs [] ρ μ') fun as μ2 => .ok (x :: as) μ2) _)) := h
    rw [evs.eq_1] at h
    have h : Post K F m _ _ (Res.bind (optR ((drs μ' [x]).bind p.f) μ') fun d μ2 => .ok (Wp.A.v d) μ2) := h
    intro F' H' s S' v r
    cases e1 : dr μ' x with
    | none =>
      have e2 : drs μ' [x] = none := by rw [drs.eq_2, e1]
      rw [e2] at h
      exact (show False from h).elim
    | some d =>
      have e2 : drs μ' [x] = some [d] := by rw [drs.eq_2, e1]; rfl
      rw [e2] at h
      have h : Post K F m _ _ (Res.bind (optR (p.f1 d) μ') fun d μ2 => .ok (Wp.A.v d) μ2) := h
      cases e3 : p.f1 d with
      | none => rw [e3] at h; exact (show False from h).elim
      | some res =>
        rw [e3] at h
        exact ⟨F', m, μ', d, res, S', S'.dr r e1, e3, fun F2 H2 w s2 S2 r2 => h F2 H2 (s.trans s2) S2 w r2⟩
/-- isinstance(e, T) -/
theorem okE_isi {n : Str} {t : Ty} {p p2 : Pos} (hg : Gl X "isinstance") (hm : X.mg "isinstance" = none) (he : PE X e (tE X.K W .v A)) (hc : PE X c (tC (.ty t.tn)))
    (h1 : starEach [e, c] X.env = (false, eval e X.env) :: starEach [c] X.env) (h2 : starEach [c] X.env = (false, eval c X.env) :: starEach [] X.env) (hpl : (backTo pos (starEach [c] X.env)).any (·.1) = false) :
    PE X (.Call (.Name "isinstance" p) [e, c] [] pos) (tE X.K W .v (.prim (.isinst [t]) [A])) := by
  refine PE.imp (pe_callB call_isi hg hm boot_isinstance (pa_cons he (pa_cons hc pa_nil h2) h1) (by decide) (by decide) h1 hpl) fun σ H Q h => ?_
  obtain ⟨F, m, μ, ρ, S, R, h⟩ := tE_prim1 h
  refine ⟨F, m, μ, ρ, S, R, h.imp (fun F' H' μ' x s S' q v r => ?_) fun _ _ _ _ _ x => x⟩
  obtain ⟨F2, m2, μ2, d, res, S2, r2, e2, q⟩ := q v r
  obtain ⟨n, hn, rfl⟩ := isi_e e2
  refine ⟨v, .ty t.tn, .type n, .type t.tn, _, rfl, .ty _, rn_ty S2 r2 hn, kit_one d t n hn, ?_⟩
  have := q F2 H' _ (Same.refl _) S2 (.bl (([t]).any (isTy d)))
  simpa using this
/-- isinstance(e, (T1, T2, ..)) -/
theorem okE_isiT {ts : List Ty} {cs : List Expr} {p p2 : Pos} {k : Nat} (hg : Gl X "isinstance") (hm : X.mg "isinstance" = none) (he : PE X e (tE X.K W .v A)) (hc : PA X cs (fun σ H Q => Q (ts.map fun t => V.ty t.tn) H)) (hl : ts.length ≤ 1000)
    (h1 : starEach [e, .Tuple cs k p2] X.env = (false, eval e X.env) :: starEach [.Tuple cs k p2] X.env) (h2 : starEach [.Tuple cs k p2] X.env = (false, eval (.Tuple cs k p2) X.env) :: starEach [] X.env) (hpl : (backTo pos (starEach [.Tuple cs k p2] X.env)).any (·.1) = false) :
    PE X (.Call (.Name "isinstance" p) [e, .Tuple cs k p2] [] pos) (tE X.K W .v (.prim (.isinst ts) [A])) := by
  refine PE.imp (pe_callB call_isiT hg hm boot_isinstance (pa_cons he (pa_cons (pe_tup hc) pa_nil h2) h1) (by decide) (by decide) h1 hpl) fun σ H Q h => ?_
  obtain ⟨F, m, μ, ρ, S, R, h⟩ := tE_prim1 h
  refine ⟨F, m, μ, ρ, S, R, h.imp (fun F' H' μ' x s S' q v r => ?_) fun _ _ _ _ _ x => x⟩
  obtain ⟨F2, m2, μ2, d, res, S2, r2, e2, q⟩ := q v r
  obtain ⟨n, hn, rfl⟩ := isi_e e2
  refine ⟨by rw [List.length_map]; exact Nat.le_of_lt (small1000 (by omega)), fun t ht => ?_⟩
  have S3 := S2.laid (o := .tup (ts.map fun t => V.ty t.tn)) ht
  have r3 : Rn X.K F2 (upd H' t (.tup (ts.map fun t => V.ty t.tn))) v d := by
    rcases r2 with r | ⟨a, vs, ds, e1, e2, h3, h4⟩
    · exact .inl r
    · exact .inr ⟨a, vs, ds, e1, e2, by rw [upd_ne (ne_of_none h3 ht)]; exact h3, h4⟩
  exact ⟨v, t, _, .type n, _, _, rfl, upd_same, clsV_all ts, rn_ty S3 r3 hn, kit_any d n hn ts, q F2 _ _ (Same.refl _) S3 (.bl _)⟩

/-! ### calls of one value -/
def rc1 (r : V → Hp → VK → Prop) : List V → Hp → VK → Prop := rr1 r
theorem prim_len {K : Frag} : PrimN K .v (fun xs H Q => ∃ x n, xs = [x] ∧ LenV K x H n ∧ Q (.int n) H) P.len.f := by
  have h : PrimN K .v (rr1 fun x H Q => ∃ n, LenV K x H n ∧ Q (.int n) H) P.len.f := by
    refine prim1 (fun _ _ => rfl) (fun _ _ _ => rfl) fun F m μ H x a res Q S r1 e q => ?_
    cases a <;> try (cases e; done)
    · rename_i s
      cases r1.str
      have e : (if s.length ≤ SL then some (D.int s.length) else none) = some res := e
      split at e
      · rename_i h
        cases e
        exact ⟨s.length, ⟨by rw [sx_len, ← sl_eq]; exact h, (sx_len s).symm⟩, q F H _ (Same.refl F) S (.int _)⟩
      · cases e
    · cases e
      obtain ⟨p, vs, rfl, h1, h2⟩ := S.seqT r1
      exact ⟨_, .inr ⟨vs, h1, h2.length.symm⟩, q F H _ (Same.refl F) S (.int _)⟩
    · cases e
      obtain ⟨p, vs, rfl, h1, h2⟩ := S.seqL r1
      exact ⟨_, .inl ⟨vs, h1, h2.length.symm⟩, q F H _ (Same.refl F) S (.int _)⟩
  intro F m μ H vs ds res Q S r e q
  obtain ⟨x, ex, n, hl, hq⟩ := h F m μ H vs ds res Q S r e q
  exact ⟨x, n, ex, hl, hq⟩
theorem prim_abs {K : Frag} : PrimN K .v (fun xs H Q => ∃ i, xs = [.int i] ∧ Q (.int (if i < 0 then -i else i)) H) P.abs.f := by
  have h : PrimN K .v (rr1 fun x H Q => ∃ i, x = .int i ∧ Q (.int (if i < 0 then -i else i)) H) P.abs.f := by
    refine prim1 (fun _ _ => rfl) (fun _ _ _ => rfl) fun F m μ H x a res Q S r1 e q => ?_
    cases a <;> try (cases e; done)
    cases r1.int
    cases e
    exact ⟨_, rfl, q F H _ (Same.refl F) S (.int _)⟩
  intro F m μ H vs ds res Q S r e q
  obtain ⟨x, rfl, i, rfl, hq⟩ := h F m μ H vs ds res Q S r e q
  exact ⟨i, rfl, hq⟩
theorem prim_max {K : Frag} : PrimN K .v (fun xs H Q => ∃ i j, xs = [.int i, .int j] ∧ Q (.int (if j > i then j else i)) H) P.max.f := by
  have h : PrimN K .v (rr2 fun x y H Q => ∃ i j, x = .int i ∧ y = .int j ∧ Q (.int (if j > i then j else i)) H) P.max.f := by
    refine prim2 (fun _ => rfl) (fun _ _ _ => rfl) fun F m μ H x y a b res Q S r1 r2 e q => ?_
    cases a <;> cases b <;> try (cases e; done)
    cases r1.int
    cases r2.int
    cases e
    exact ⟨_, _, rfl, rfl, q F H _ (Same.refl F) S (.int _)⟩
  intro F m μ H vs ds res Q S r e q
  obtain ⟨x, y, rfl, i, j, rfl, rfl, hq⟩ := h F m μ H vs ds res Q S r e q
  exact ⟨i, j, rfl, hq⟩
theorem prim_min {K : Frag} : PrimN K .v (fun xs H Q => ∃ i j, xs = [.int i, .int j] ∧ Q (.int (if j < i then j else i)) H) P.min.f := by
  have h : PrimN K .v (rr2 fun x y H Q => ∃ i j, x = .int i ∧ y = .int j ∧ Q (.int (if j < i then j else i)) H) P.min.f := by
    refine prim2 (fun _ => rfl) (fun _ _ _ => rfl) fun F m μ H x y a b res Q S r1 r2 e q => ?_
    cases a <;> cases b <;> try (cases e; done)
    cases r1.int
    cases r2.int
    cases e
    exact ⟨_, _, rfl, rfl, q F H _ (Same.refl F) S (.int _)⟩
  intro F m μ H vs ds res Q S r e q
  obtain ⟨x, y, rfl, i, j, rfl, rfl, hq⟩ := h F m μ H vs ds res Q S r e q
  exact ⟨i, j, rfl, hq⟩
theorem prim_gcd {K : Frag} : PrimN K .v rGcd P.gcd.f := by
  have h : PrimN K .v (rr2 fun x y H Q => ∃ i j : Int, x = .int i ∧ y = .int j ∧ Q (.int ((Nat.gcd i.natAbs j.natAbs : Nat) : Int)) H) P.gcd.f := by
    refine prim2 (fun _ => rfl) (fun _ _ _ => rfl) fun F m μ H x y a b res Q S r1 r2 e q => ?_
    cases a <;> cases b <;> try (cases e; done)
    cases r1.int
    cases r2.int
    cases e
    exact ⟨_, _, rfl, rfl, q F H _ (Same.refl F) S (.int _)⟩
  intro F m μ H vs ds res Q S r e q
  obtain ⟨x, y, rfl, i, j, rfl, rfl, hq⟩ := h F m μ H vs ds res Q S r e q
  exact ⟨i, j, rfl, hq⟩
/-- tuple(x), list(x) -/
theorem prim_tuple {K : Frag} : PrimN K .v (fun xs H Q => ∃ p ys, xs = [.ref p] ∧ ((SqL K H p ys ∧ ∀ l, H l = none → Q (.ref l) (upd H l (.tup ys))) ∨ (SqT K H p ys ∧ Q (.ref p) H))) P.tuple.f := by
  have h : PrimN K .v (rr1 fun x H Q => ∃ p ys, x = .ref p ∧ ((SqL K H p ys ∧ ∀ l, H l = none → Q (.ref l) (upd H l (.tup ys))) ∨ (SqT K H p ys ∧ Q (.ref p) H))) P.tuple.f := by
    refine prim1 (fun _ _ => rfl) (fun _ _ _ => rfl) fun F m μ H x a res Q S r1 e q => ?_
    cases a <;> try (cases e; done)
    · cases e
      obtain ⟨p, vs, rfl, h1, h2⟩ := S.seqT r1
      refine ⟨p, vs, rfl, .inr ⟨h1, q F H _ (Same.refl F) S ?_⟩⟩
      rcases r1 with r | ⟨_, _, _, _, z, _⟩
      · exact r
      · cases z
    · cases e
      obtain ⟨p, vs, rfl, h1, h2⟩ := S.seqL r1
      refine ⟨p, vs, rfl, .inl ⟨h1, fun t ht => ?_⟩⟩
      obtain ⟨sF, S2⟩ := S.frozen (o := .tup vs) ht
      exact q _ _ _ sF S2 (.tup (.of upd_same) (h2.mono sF))
  intro F m μ H vs ds res Q S r e q
  obtain ⟨x, rfl, p, ys, rfl, hq⟩ := h F m μ H vs ds res Q S r e q
  exact ⟨p, ys, rfl, hq⟩
theorem prim_list {K : Frag} : PrimN K .n (fun xs H Q => ∃ p ys, xs = [.ref p] ∧ (SqL K H p ys ∨ SqT K H p ys) ∧ ∀ l, H l = none → Q (.ref l) (upd H l (.lst ys))) P.list.f := by
  have h : PrimN K .n (rr1 fun x H Q => ∃ p ys, x = .ref p ∧ (SqL K H p ys ∨ SqT K H p ys) ∧ ∀ l, H l = none → Q (.ref l) (upd H l (.lst ys))) P.list.f := by
    refine prim1 (fun _ _ => rfl) (fun _ _ _ => rfl) fun F m μ H x a res Q S r1 e q => ?_
    cases a <;> try (cases e; done)
    · cases e
      obtain ⟨p, vs, rfl, h1, h2⟩ := S.seqT r1
      exact ⟨p, vs, rfl, .inr h1, fun t ht => q F _ _ (Same.refl F) (S.laid ht) ⟨t, _, rfl, upd_same, h2, S.sub.free ht, fun i c e1 e2 => S.notCell ht i c e1 e2⟩⟩
    · cases e
      obtain ⟨p, vs, rfl, h1, h2⟩ := S.seqL r1
      exact ⟨p, vs, rfl, .inl h1, fun t ht => q F _ _ (Same.refl F) (S.laid ht) ⟨t, _, rfl, upd_same, h2, S.sub.free ht, fun i c e1 e2 => S.notCell ht i c e1 e2⟩⟩
    · cases e
      rcases r1 with r | ⟨_, _, _, _, z, _⟩
      · cases r with
        | frz h1 h2 => exact ⟨_, _, rfl, .inl (S.sub.seq h1), fun t ht => q F _ _ (Same.refl F) (S.laid ht) ⟨t, _, rfl, upd_same, h2, S.sub.free ht, fun i c e1 e2 => S.notCell ht i c e1 e2⟩⟩
      · cases z
  intro F m μ H vs ds res Q S r e q
  obtain ⟨x, rfl, p, ys, rfl, hq⟩ := h F m μ H vs ds res Q S r e q
  exact ⟨p, ys, rfl, hq⟩
theorem intsOf_vals {K : Frag} {F : Hp} : ∀ {vs : List V} {ds : List D} {is : List Int}, Reps K F vs ds → intsOf ds = some is → vs = is.map V.int
  | _, [], _, .nil, e => by cases e; rfl
  | _, d :: ds, is, .cons a b, e => by
    cases d with
    | int i =>
      have e : (intsOf ds).map (i :: ·) = some is := e
      cases h : intsOf ds with
      | none => rw [h] at e; cases e
      | some js =>
        rw [h] at e
        cases e
        cases a
        rw [intsOf_vals b h]; rfl
    | _ => cases e
theorem blsOf_vals {K : Frag} {F : Hp} : ∀ {vs : List V} {ds : List D} {is : List Bool}, Reps K F vs ds → blsOf ds = some is → vs = is.map V.bl
  | _, [], _, .nil, e => by cases e; rfl
  | _, d :: ds, is, .cons a b, e => by
    cases d with
    | bl i =>
      have e : (blsOf ds).map (i :: ·) = some is := e
      cases h : blsOf ds with
      | none => rw [h] at e; cases e
      | some js =>
        rw [h] at e
        cases e
        cases a
        rw [blsOf_vals b h]; rfl
    | _ => cases e
theorem strsOf_vals {K : Frag} {F : Hp} : ∀ {vs : List V} {ds : List D} {is : List Tx}, Reps K F vs ds → strsOf ds = some is → vs = (is.map sx).map V.str
  | _, [], _, .nil, e => by cases e; rfl
  | _, d :: ds, is, .cons a b, e => by
    cases d with
    | str i =>
      have e : (strsOf ds).map (i :: ·) = some is := e
      cases h : strsOf ds with
      | none => rw [h] at e; cases e
      | some js =>
        rw [h] at e
        cases e
        cases a
        rw [strsOf_vals b h]; rfl
    | _ => cases e
theorem prim_sum {K : Frag} : PrimN K .v (rSum K) P.sum.f := by
  have h : PrimN K .v (rr1 fun x H Q => ∃ (a : Addr) (ns : List Int), x = V.ref a ∧ SqL K H a (ns.map V.int) ∧ Q (.int ns.sum) H) P.sum.f := by
    refine prim1 (fun _ _ => rfl) (fun _ _ _ => rfl) fun F m μ H x a res Q S r1 e q => ?_
    cases a <;> try (cases e; done)
    rename_i ds
    have e : (intsOf ds).map (fun is => D.int is.sum) = some res := e
    cases h : intsOf ds with
    | none => rw [h] at e; cases e
    | some is =>
      rw [h] at e
      cases e
      obtain ⟨p, vs, rfl, h1, h2⟩ := S.seqL r1
      rw [intsOf_vals h2 h] at h1
      exact ⟨p, is, rfl, h1, q F H _ (Same.refl F) S (.int _)⟩
  intro F m μ H vs ds res Q S r e q
  obtain ⟨x, rfl, p, ys, rfl, hq⟩ := h F m μ H vs ds res Q S r e q
  exact ⟨p, ys, rfl, hq⟩
theorem prim_any {K : Frag} : PrimN K .v (rAny K) P.any.f := by
  have h : PrimN K .v (rr1 fun x H Q => ∃ (a : Addr) (ns : List Bool), x = V.ref a ∧ SqL K H a (ns.map V.bl) ∧ Q (.bl (ns.any id)) H) P.any.f := by
    refine prim1 (fun _ _ => rfl) (fun _ _ _ => rfl) fun F m μ H x a res Q S r1 e q => ?_
    cases a <;> try (cases e; done)
    rename_i ds
    have e : (blsOf ds).map (fun is => D.bl (is.any id)) = some res := e
    cases h : blsOf ds with
    | none => rw [h] at e; cases e
    | some is =>
      rw [h] at e
      cases e
      obtain ⟨p, vs, rfl, h1, h2⟩ := S.seqL r1
      rw [blsOf_vals h2 h] at h1
      exact ⟨p, is, rfl, h1, q F H _ (Same.refl F) S (.bl _)⟩
  intro F m μ H vs ds res Q S r e q
  obtain ⟨x, rfl, p, ys, rfl, hq⟩ := h F m μ H vs ds res Q S r e q
  exact ⟨p, ys, rfl, hq⟩
theorem prim_all {K : Frag} : PrimN K .v (rAll K) P.all.f := by
  have h : PrimN K .v (rr1 fun x H Q => ∃ (a : Addr) (ns : List Bool), x = V.ref a ∧ SqL K H a (ns.map V.bl) ∧ Q (.bl (ns.all id)) H) P.all.f := by
    refine prim1 (fun _ _ => rfl) (fun _ _ _ => rfl) fun F m μ H x a res Q S r1 e q => ?_
    cases a <;> try (cases e; done)
    rename_i ds
    have e : (blsOf ds).map (fun is => D.bl (is.all id)) = some res := e
    cases h : blsOf ds with
    | none => rw [h] at e; cases e
    | some is =>
      rw [h] at e
      cases e
      obtain ⟨p, vs, rfl, h1, h2⟩ := S.seqL r1
      rw [blsOf_vals h2 h] at h1
      exact ⟨p, is, rfl, h1, q F H _ (Same.refl F) S (.bl _)⟩
  intro F m μ H vs ds res Q S r e q
  obtain ⟨x, rfl, p, ys, rfl, hq⟩ := h F m μ H vs ds res Q S r e q
  exact ⟨p, ys, rfl, hq⟩

/-! ### subscripts -/
theorem Rn.tup {K : Frag} {F H : Hp} {v : V} {ds : List D} (r : Rn K F H v (.tup ds)) : Rep K F v (.tup ds) := by
  rcases r with r | ⟨_, _, _, _, z, _⟩
  · exact r
  · cases z
theorem prim_idx {K : Frag} : PrimN K .v (rr2 (rIx K)) P.idx.f := by
  refine prim2 (fun _ => rfl) (fun _ _ _ => rfl) fun F m μ H x y a b res Q S r1 r2 e q => ?_
  have look : ∀ {vs : List V} {ds : List D} {i : Int}, Reps K F vs ds → Wp.atI ds i = some res → ∃ v, L2.atI vs i = some v ∧ Rep K F v res := by
    intro vs ds i r e
    unfold Wp.atI at e
    cases h : Wp.ixN ds.length i with
    | none => rw [h] at e; cases e
    | some j =>
      rw [h] at e
      exact r.atI h e
  cases b <;> try (cases a <;> cases e; done)
  rename_i i
  cases r2.int
  cases a <;> try (cases e; done)
  · rename_i s
    cases r1.str
    have e : (if s.length ≤ SL then (Wp.atI s i).map (fun c => D.str [c]) else none) = some res := e
    split at e
    · rename_i h
      cases h2 : Wp.atI s i with
      | none => rw [h2] at e; cases e
      | some c =>
        rw [h2] at e
        cases e
        refine .inr (.inr ⟨sx s, i, c, rfl, rfl, by rw [sx_len, ← sl_eq]; exact h, ?_, q F H _ (Same.refl F) S (.str [c])⟩)
        exact h2
    · cases e
  · obtain ⟨p, vs, rfl, h1, h2⟩ := S.seqT r1
    obtain ⟨v, ev, rv⟩ := look h2 e
    exact .inr (.inl ⟨p, vs, i, v, rfl, rfl, h1, ev, q F H _ (Same.refl F) S rv⟩)
  · obtain ⟨p, vs, rfl, h1, h2⟩ := S.seqL r1
    obtain ⟨v, ev, rv⟩ := look h2 e
    exact .inl ⟨p, vs, i, v, rfl, rfl, h1, ev, q F H _ (Same.refl F) S rv⟩
theorem okE_idx (ha : PE X a (tE X.K W .v A)) (hb : PE X b (tE X.K W .v B)) (hs : PlainIx b) : PE X (.Subscript a b pos) (tE X.K W .v (.prim .idx [A, B])) := by
  refine PE.imp (pe_ix ix_seq ha hb hs) fun σ H Q h => ?_
  obtain ⟨F, m, μ, ρ, S, R, h⟩ := tEs_two (tE_prim prim_idx h)
  refine ⟨F, m, μ, ρ, S, R, h.imp (fun F' H' μ' x s S' q v r1 => ?_) fun _ _ _ _ _ x => x⟩
  obtain ⟨F1, m1, μ1, ρ1, S1, R1, h1⟩ := q v r1
  refine ⟨F1, m1, μ1, ρ1, S1, R1, h1.imp (fun F2 H2 μ2 y s2 S2 q2 w r2 => ?_) fun _ _ _ _ _ x => x⟩
  obtain ⟨x', y', e, h⟩ := q2 w r2
  cases e
  exact h
end
end Wp

set_option Elab.async false
set_option linter.all false
set_option maxRecDepth 100000
set_option autoImplicit true
/-! W2d: slices, ranges as lists, chains, is None, keyword calls, globals, index. -/
namespace Wp
open PySem PySem.Spec PyProof.Rows L2

section
variable {X : Cx} {W : WX} {e a b c : Expr} {es : List Expr} {A B C : E} {As : List E} {pos : Pos}

/-! ### slices -/
theorem sIx_eq (n d : Nat) (o : Option Int) : HT.sIx n d o = Wp.sIx n d o := by cases o <;> rfl
theorem Reps.cut {K : Frag} {F : Hp} {vs : List V} {ds : List D} (r : Reps K F vs ds) (lo hi : Option Int) : Reps K F (cutV vs lo hi) (Wp.cut ds lo hi) := by
  unfold cutV Wp.cut
  rw [r.length, sIx_eq, sIx_eq]
  exact (r.drop _).take _
def rSl (K : Frag) : V → Option Int → Option Int → Hp → VK → Prop := fun x lo hi H Q => rSlL K x lo hi H Q ∨ rSlA K x lo hi H Q ∨ rSlS x lo hi H Q
theorem sl_any : SlR X (rSl X.K) := sl_list.or (sl_tupA.or sl_str)
theorem cutD_rel {K : Frag} {F H : Hp} {m : List Addr} {μ : Mu} {x : V} {a res : D} {lo hi : Option Int} {Q : VK} (S : Sim K F m μ H) (r : Rn K F H x a) (e : cutD a lo hi = some res)
    (q : ∀ F' H' v, Same F F' → Sim K F' m μ H' → RepR K .n F' m μ H' v (.v res) → Q v H') : rSl K x lo hi H Q := by
  cases a <;> try (cases e; done)
  · rename_i s
    cases r.str
    have e : (if s.length ≤ SL then some (D.str (Wp.cut s lo hi)) else none) = some res := e
    split at e
    · rename_i h
      cases e
      refine .inr (.inr ⟨sx s, rfl, by rw [sx_len, ← sl_eq]; exact h, ?_⟩)
      have e2 : cutS (sx s) lo hi = sx (Wp.cut s lo hi) := by
        unfold cutS Wp.cut sx
        simp only [Str.length, List.size_toArray, sIx_eq]
      rw [e2]
      exact q F H _ (Same.refl F) S (.str _)
    · cases e
  · rename_i ds
    cases e
    obtain ⟨p, vs, rfl, h1, h2⟩ := S.seqT r
    refine .inr (.inl ⟨p, vs, rfl, h1, fun hw => ?_, fun hw t ht => ?_⟩)
    · have e2 : Wp.cut ds lo hi = ds := by
        unfold Wp.cut
        rw [← sIx_eq, ← sIx_eq, ← h2.length, hw.1, hw.2, List.drop_zero, Nat.sub_zero, h2.length, List.take_length]
      exact q F H _ (Same.refl F) S (by show Rep K F _ (.tup (Wp.cut ds lo hi)); rw [e2]; exact r.tup)
    · obtain ⟨sF, S2⟩ := S.frozen (o := .tup (cutV vs lo hi)) ht
      exact q _ _ _ sF S2 (.tup (.of upd_same) ((h2.cut lo hi).mono sF))
  · rename_i ds
    cases e
    obtain ⟨p, vs, rfl, h1, h2⟩ := S.seqL r
    exact .inl ⟨p, vs, rfl, h1, fun t ht => q F _ _ (Same.refl F) (S.laid ht) ⟨t, _, rfl, upd_same, h2.cut lo hi, S.sub.free ht, fun i c e1 e2 => S.notCell ht i c e1 e2⟩⟩
theorem prim_slLo {K : Frag} : PrimN K .n (rr2 fun x y H Q => ∃ l, y = .int l ∧ rSl K x (some l) none H Q) P.slLo.f := by
  refine prim2 (fun _ => rfl) (fun _ _ _ => rfl) fun F m μ H x y a b res Q S r1 r2 e q => ?_
  cases b <;> try (cases e; done)
  cases r2.int
  exact ⟨_, rfl, cutD_rel S r1 e q⟩
theorem prim_slHi {K : Frag} : PrimN K .n (rr2 fun x y H Q => ∃ l, y = .int l ∧ rSl K x none (some l) H Q) P.slHi.f := by
  refine prim2 (fun _ => rfl) (fun _ _ _ => rfl) fun F m μ H x y a b res Q S r1 r2 e q => ?_
  cases b <;> try (cases e; done)
  cases r2.int
  exact ⟨_, rfl, cutD_rel S r1 e q⟩
theorem prim3 {K : Frag} {new : Md} {p : P} {r : V → V → V → Hp → VK → Prop} (h1 : ∀ a, p.f1 a = none) (h2 : ∀ a b, p.f2 a b = none)
    (h : ∀ (F : Hp) (m : List Addr) (μ : Mu) (H : Hp) (x y z : V) (a b c res : D) (Q : VK), Sim K F m μ H → Rn K F H x a → Rn K F H y b → Rn K F H z c → p.f3 a b c = some res → (∀ F' H' v, Same F F' → Sim K F' m μ H' → RepR K new F' m μ H' v (.v res) → Q v H') → r x y z H Q) :
    PrimN K new (fun vs H Q => ∃ x y z, vs = [x, y, z] ∧ r x y z H Q) p.f := by
  intro F m μ H vs ds res Q S rs e q
  match vs, ds, rs with
  | _, _, .nil => cases e
  | _, _, .cons r1 .nil => exact absurd ((h1 _).symm.trans e) (by simp)
  | _, _, .cons r1 (.cons r2 .nil) => exact absurd ((h2 _ _).symm.trans e) (by simp)
  | _, _, .cons r1 (.cons r2 (.cons r3 .nil)) => exact ⟨_, _, _, rfl, h F m μ H _ _ _ _ _ _ res Q S r1 r2 r3 e q⟩
  | _, _, .cons r1 (.cons r2 (.cons r3 (.cons r4 rr))) => cases e
theorem prim_slLH {K : Frag} : PrimN K .n (fun vs H Q => ∃ x y z, vs = [x, y, z] ∧ ∃ l u, y = .int l ∧ z = .int u ∧ rSl K x (some l) (some u) H Q) P.slLH.f := by
  refine prim3 (fun _ => rfl) (fun _ _ => rfl) fun F m μ H x y z a b c res Q S r1 r2 r3 e q => ?_
  cases b <;> try (cases e; done)
  cases c <;> try (cases e; done)
  cases r2.int
  cases r3.int
  exact ⟨_, _, rfl, rfl, cutD_rel S r1 e q⟩
theorem tEs_three {K : Frag} {σ : L2.St} {H : Hp} {Q : List V → Hp → Prop} (h : tEs K W [A, B, C] σ H Q) : tE K W .v A σ H fun x H1 => tE K W .v B σ H1 fun y H2 => tE K W .v C σ H2 fun z H3 => Q [x, y, z] H3 := by
  obtain ⟨F, m, μ, ρ, S, R, h⟩ := tEs_cons h
  refine ⟨F, m, μ, ρ, S, R, h.imp (fun F' H' μ' x s S' q v r => ?_) fun _ _ _ _ _ x => x⟩
  exact tEs_two (q v r)
theorem tE.imp {K : Frag} {md : Md} {σ : L2.St} {H : Hp} {Q Q' : VK} (h : tE K W md A σ H Q) (i : ∀ v H, Q v H → Q' v H) : tE K W md A σ H Q' := by
  obtain ⟨F, m, μ, ρ, S, RS, h⟩ := h
  exact ⟨F, m, μ, ρ, S, RS, h.imp (fun F' H' μ' a s S' q v r => i _ _ (q v r)) fun _ _ _ _ _ x => x⟩
theorem okN_slLo {p2 : Pos} (he : PE X e (tE X.K W .v A)) (hl : PE X a (tE X.K W .v B)) : PE X (.Subscript e (.Slice (some a) none none p2) pos) (tE X.K W .n (.prim .slLo [A, B])) := by
  refine PE.imp (pe_slice sl_any he (po_some hl) po_none) fun σ H Q h => (tEs_two (tE_prim prim_slLo h)).imp fun x H1 q => q.imp fun y H2 q => ?_
  obtain ⟨x', y', e, l, rfl, h⟩ := q
  cases e
  exact ⟨l, rfl, h⟩
theorem okN_slHi {p2 : Pos} (he : PE X e (tE X.K W .v A)) (hl : PE X a (tE X.K W .v B)) : PE X (.Subscript e (.Slice none (some a) none p2) pos) (tE X.K W .n (.prim .slHi [A, B])) := by
  refine PE.imp (pe_slice sl_any he po_none (po_some hl)) fun σ H Q h => (tEs_two (tE_prim prim_slHi h)).imp fun x H1 q => q.imp fun y H2 q => ?_
  obtain ⟨x', y', e, l, rfl, h⟩ := q
  cases e
  exact ⟨l, rfl, h⟩
theorem tE_asI {K : Frag} {σ : L2.St} {H : Hp} {Q : VK} (h : tE K W .v (.prim .asI [B]) σ H Q) : tE K W .v B σ H fun x H1 => ∃ i, x = .int i ∧ Q x H1 := by
  refine (tE_prim1 h).imp fun x H1 q => ?_
  obtain ⟨F, m, μ, d, res, S, r, e, q⟩ := q
  cases d <;> try (cases e; done)
  cases r.int
  cases e
  exact ⟨_, rfl, q F H1 _ (Same.refl F) S (.int _)⟩
theorem okN_slLH {p2 : Pos} (he : PE X e (tE X.K W .v A)) (hl : PE X a (tE X.K W .v B)) (hh : PE X b (tE X.K W .v C)) : PE X (.Subscript e (.Slice (some a) (some b) none p2) pos) (tE X.K W .n (.prim .slLH [A, .prim .asI [B], C])) := by
  refine PE.imp (pe_slice sl_any he (po_some hl) (po_some hh)) fun σ H Q h => (tEs_three (tE_prim prim_slLH h)).imp fun x H1 q => (tE_asI q).imp fun y H2 q => ?_
  obtain ⟨i, rfl, q⟩ := q
  refine ⟨i, rfl, q.imp fun z H3 q => ?_⟩
  obtain ⟨x', y', z', e, l, u, rfl, rfl, h⟩ := q
  cases e
  exact ⟨u, rfl, h⟩

/-! ### list(range(..)) -/
theorem rgV_reps {K : Frag} {F : Hp} : ∀ (n : Nat) (lo : Int), Reps K F ((List.range n).map fun i => V.int (lo + (i : Nat))) (rngL lo n)
  | 0, lo => .nil
  | n + 1, lo => by
    rw [List.range_succ_eq_map, List.map_cons, List.map_map]
    unfold rngL
    refine .cons ?_ ?_
    · have : lo + ((0 : Nat) : Int) = lo := by omega
      rw [this]
      exact .int lo
    · have := rgV_reps (K := K) (F := F) n (lo + 1)
      have e : ((fun i : Nat => V.int (lo + (i : Nat))) ∘ Nat.succ) = fun i : Nat => V.int (lo + 1 + (i : Nat)) := by
        funext i
        show V.int (lo + ((i + 1 : Nat) : Int)) = _
        congr 1
        omega
      rw [e]
      exact this
theorem lr_e {o : Option (List D)} {res : D} (e : (o.bind fun xs => if xs.length ≤ SL then some (D.lst xs) else none) = some res) : ∃ l, o = some l ∧ l.length ≤ SL ∧ res = .lst l := by
  cases o with
  | none => cases e
  | some l =>
    have e : (if l.length ≤ SL then some (D.lst l) else none) = some res := e
    split at e
    · rename_i hl
      exact ⟨l, rfl, hl, (Option.some.inj e).symm⟩
    · cases e
/-- as tE_prim1, the result of the mode md -/
theorem tE_prim1M {K : Frag} {md : Md} {p : P} {σ : L2.St} {H : Hp} {Q : VK} (h : tE K W md (.prim p [A]) σ H Q) :
    tE K W .v A σ H fun x H1 => ∃ F m μ d res, Sim K F m μ H1 ∧ Rn K F H1 x d ∧ p.f1 d = some res ∧ ∀ F' H' v, Same F F' → Sim K F' m μ H' → RepR K md F' m μ H' v (.v res) → Q v H' := by
  have hp : PrimN K md (fun vs H Q => vs.length = 1 → ∃ x, vs = [x] ∧ ∃ F m μ d res, Sim K F m μ H ∧ Rn K F H x d ∧ p.f1 d = some res ∧ ∀ F' H' v, Same F F' → Sim K F' m μ H' → RepR K md F' m μ H' v (.v res) → Q v H') p.f := by
    intro F m μ H vs ds res Q S r e q hl
    match vs, ds, r, hl with
    | _, _, .cons r1 .nil, _ => exact ⟨_, rfl, F, m, μ, _, res, S, r1, e, q⟩
  refine (tEs_one (tE_prim hp h)).imp fun x H1 q => ?_
  obtain ⟨y, e, q⟩ := q rfl
  cases e
  exact q
theorem okN_lrange1 {p p2 pos2 : Pos} (hc : X.calm = true) (hg : Gl X "list") (hm : X.mg "list" = none) (hg2 : Gl X "range") (hm2 : X.mg "range" = none) (ha : PE X a (tE X.K W .v A))
    (na : starEach [a] X.env = (false, eval a X.env) :: starEach [] X.env) (nb : starEach [.Call (.Name "range" p2) [a] [] pos2] X.env = (false, eval (.Call (.Name "range" p2) [a] [] pos2) X.env) :: starEach [] X.env) :
    PE X (.Call (.Name "list" p) [.Call (.Name "range" p2) [a] [] pos2] [] pos) (tE X.K W .n (.prim .lrange [A])) := by
  refine PE.imp (pe_listRg hc hg hm (prg_1 hg2 hm2 ha na) nb) fun σ H Q h => (tE_prim1M h).imp fun x H1 q => ?_
  obtain ⟨F, m, μ, d, res, S, r, e, q⟩ := q
  obtain ⟨l, h1, h2, rfl⟩ := lr_e e
  obtain ⟨n, h3, h4, h5, rfl⟩ := rngOf1 h1 rfl
  cases h3
  cases r.int
  rw [rngL_length] at h2
  have hsl : SL = 2 ^ 24 := rfl
  refine ⟨n, rfl, ⟨by omega, by omega, h4, h5, by rw [Int.sub_zero]; omega⟩, fun t ht => ?_⟩
  refine q F _ _ (Same.refl F) (S.laid ht) ⟨t, _, rfl, upd_same, ?_, S.sub.free ht, fun i c e1 e2 => S.notCell ht i c e1 e2⟩
  unfold rgV
  rw [Int.sub_zero]
  exact rgV_reps n.toNat 0
theorem okN_lrange2 {p p2 pos2 : Pos} (hc : X.calm = true) (hg : Gl X "list") (hm : X.mg "list" = none) (hg2 : Gl X "range") (hm2 : X.mg "range" = none) (ha : PE X a (tE X.K W .v A)) (hb : PE X b (tE X.K W .v B))
    (na : starEach [a, b] X.env = (false, eval a X.env) :: starEach [b] X.env) (nb : starEach [b] X.env = (false, eval b X.env) :: starEach [] X.env) (hp : (backTo pos2 (starEach [b] X.env)).any (·.1) = false)
    (nc : starEach [.Call (.Name "range" p2) [a, b] [] pos2] X.env = (false, eval (.Call (.Name "range" p2) [a, b] [] pos2) X.env) :: starEach [] X.env) :
    PE X (.Call (.Name "list" p) [.Call (.Name "range" p2) [a, b] [] pos2] [] pos) (tE X.K W .n (.prim .lrange [A, B])) := by
  refine PE.imp (pe_listRg hc hg hm (prg_2 hg2 hm2 ha hb na nb hp) nc) fun σ H Q h => ?_
  have hp : PrimN X.K .n (rr2 fun x y H Q => ∃ i j, x = .int i ∧ y = .int j ∧ RgOk i j ∧ ∀ q, H q = none → Q (.ref q) (upd H q (.lst (rgV i j)))) (fun ds => match ds with | [a, b] => P.lrange.f2 a b | _ => none) := by
    intro F m μ H vs ds res Q S r e q
    match vs, ds, r with
    | _, _, .nil => cases e
    | _, _, .cons r1 .nil => cases e
    | _, _, .cons (b := d1) r1 (.cons (b := d2) r2 .nil) =>
      obtain ⟨l, h1, h2, rfl⟩ := lr_e (o := rngOf [d1, d2]) e
      obtain ⟨n, k, h3, ⟨h4, h5, h6, h7⟩, rfl⟩ := rngOf2 h1 rfl
      cases h3
      cases r1.int
      cases r2.int
      rw [rngL_length] at h2
      have hsl : SL = 2 ^ 24 := rfl
      refine ⟨_, _, rfl, n, k, rfl, rfl, ⟨h4, h5, h6, h7, by omega⟩, fun t ht => ?_⟩
      exact q F _ _ (Same.refl F) (S.laid ht) ⟨t, _, rfl, upd_same, rgV_reps (k - n).toNat n, S.sub.free ht, fun i c e1 e2 => S.notCell ht i c e1 e2⟩
    | _, _, .cons r1 (.cons r2 (.cons r3 rr)) => cases e
  have h' : tEs X.K W [A, B] σ H fun vs H1 => (rr2 fun x y H Q => ∃ i j, x = .int i ∧ y = .int j ∧ RgOk i j ∧ ∀ q, H q = none → Q (.ref q) (upd H q (.lst (rgV i j)))) vs H1 Q := by
    have h0 : tEs X.K W [A, B] σ H fun vs H1 => vs.length = 2 ∧ ∃ F m μ ds res, Sim X.K F m μ H1 ∧ Paired (Rn X.K F H1) vs ds ∧ P.lrange.f ds = some res ∧ ∀ F' H' v, Same F F' → Sim X.K F' m μ H' → RepR X.K .n F' m μ H' v (.v res) → Q v H' := by
      have hp0 : PrimN X.K .n (fun vs H Q => ∃ F m μ ds res, Sim X.K F m μ H ∧ Paired (Rn X.K F H) vs ds ∧ P.lrange.f ds = some res ∧ ∀ F' H' v, Same F F' → Sim X.K F' m μ H' → RepR X.K .n F' m μ H' v (.v res) → Q v H') P.lrange.f :=
        fun F m μ H vs ds res Q S r e q => ⟨F, m, μ, ds, res, S, r, e, q⟩
      obtain ⟨F, m, μ, ρ, S, R, hh⟩ := tE_prim hp0 h
      refine ⟨F, m, μ, ρ, S, R, hh.withEq.imp (fun F' H' μ' as s S' q vs rs => ?_) fun _ _ _ _ _ x => x⟩
      obtain ⟨q, eq⟩ := q
      exact ⟨by rw [Paired.length rs, evs_length _ _ _ _ _ eq]; rfl, q vs rs⟩
    refine h0.imp fun vs H1 q => ?_
    obtain ⟨hl, F, m, μ, ds, res, S, r, e, q⟩ := q
    have hd : ds.length = 2 := by rw [← Paired.length r]; exact hl
    match ds, hd, e with
    | [d1, d2], _, e => exact hp F m μ H1 vs [d1, d2] res Q S r e q
  refine (tEs_two h').imp fun x H1 q => q.imp fun y H2 q => ?_
  obtain ⟨x', y', e, i, j, rfl, rfl, h1, h2⟩ := q
  cases e
  exact ⟨i, j, rfl, rfl, h1, h2⟩

/-! ### is None -/
theorem okE_isN {j : Nat} {p2 : Pos} (ha : PE X a (tE X.K W .v A)) (hm : behindInMarks .Is (.Constant .none j p2) = false) : PE X (.Compare a [.Is] [.Constant .none j p2] pos) (tE X.K W .v (.prim .isN [A])) :=
  PE.imp (pe_cmp (pc_isN ha) hm) fun _ _ _ h => tE_one (tE_prim prim_isN h)
theorem okE_notN {j : Nat} {p2 : Pos} (ha : PE X a (tE X.K W .v A)) (hm : behindInMarks .IsNot (.Constant .none j p2) = false) : PE X (.Compare a [.IsNot] [.Constant .none j p2] pos) (tE X.K W .v (.prim .notN [A])) :=
  PE.imp (pe_cmp (pc_notN ha) hm) fun _ _ _ h => tE_one (tE_prim prim_notN h)
end
end Wp

set_option Elab.async false
set_option linter.all false
set_option maxRecDepth 100000
set_option autoImplicit true
/-! W2e: tests of comparisons, chains, globals, keyword calls, methods. -/
namespace Wp
open PySem PySem.Spec PyProof.Rows L2

section
variable {X : Cx} {W : WX} {e a b c : Expr} {es : List Expr} {A B C : E} {As : List E} {pos : Pos}

/-- an expression whose value is a bool -/
def BlE (A : E) : Prop := ∀ ρ μ x μ', ev A ρ μ = .ok x μ' → ∃ b, x = .v (.bl b)
theorem blE_prim {p : P} (hb : ∀ ds d, p.f ds = some d → ∃ b, d = .bl b) : BlE (.prim p As) := by
  intro ρ μ x μ' q
  unfold ev at q
  cases q1 : evs As ρ μ with
  | no => rw [q1] at q; cases q
  | exc c d μ' => rw [q1] at q; cases q
  | ok as μ1 =>
    rw [q1] at q
    have q : ((optR ((drs μ1 as).bind p.f) μ1).bind fun d μ2 => Res.ok (Wp.A.v d) μ2) = .ok x μ' := q
    cases q2 : (drs μ1 as).bind p.f with
    | none => rw [q2] at q; cases q
    | some d =>
      rw [q2] at q
      have q : Res.ok (Wp.A.v d) μ1 = .ok x μ' := q
      cases q
      cases q3 : drs μ' as with
      | none => rw [q3] at q2; cases q2
      | some ds =>
        rw [q3] at q2
        obtain ⟨b, rfl⟩ := hb ds d q2
        exact ⟨b, rfl⟩
theorem tT_bl {K : Frag} {σ : L2.St} {H : Hp} {Q : Bool → Hp → Prop} (hb : BlE A) (h : tT K W A σ H Q) : tE K W .v A σ H fun x H1 => ∃ k, x = V.bl k ∧ Q k H1 := by
  obtain ⟨F, m, μ, ρ, S, R, h⟩ := h
  refine ⟨F, m, μ, ρ, S, R, ?_⟩
  unfold evT at h
  have h2 := h.bind
  cases q : ev A ρ μ with
  | no => rw [q] at h2; exact h2
  | exc c d μ' => rw [q] at h2; exact h2
  | ok x μ' =>
    rw [q] at h2
    obtain ⟨b, rfl⟩ := hb ρ μ x μ' q
    intro F' H' s S' v r
    have h3 := h2 F' H' s S'
    cases (show Rep K F' v (.bl b) from r)
    exact ⟨b, rfl, h3.ok S'⟩
/-- a form with its own test of a bool -/
theorem Ok.bl {t : TE} (hv : PE X e (tE X.K W .v A)) (ht : PT X e (tB t)) (hb : BlE A) (i : ∀ σ H Q, tE X.K W .v A σ H Q → t σ H Q) : Ok X W e A :=
  ⟨hv, PT.imp ht fun _ _ _ q => i _ _ _ (tT_bl hb q)⟩
theorem bl_f1 {p : P} (h1 : ∀ a d, p.f1 a = some d → ∃ b, d = .bl b) (h2 : ∀ a b d, p.f2 a b = some d → ∃ b, d = .bl b) (h3 : ∀ a b c d, p.f3 a b c = some d → ∃ b, d = .bl b) : ∀ ds d, p.f ds = some d → ∃ b, d = .bl b
  | [], d, e => by cases e
  | [a], d, e => h1 a d e
  | [a, b], d, e => h2 a b d e
  | [a, b, c], d, e => h3 a b c d e
  | _ :: _ :: _ :: _ :: _, d, e => by cases e
theorem isN_bl : ∀ ds d, P.isN.f ds = some d → ∃ b, d = .bl b := bl_f1 (fun a d e => by rcases isN_e e with ⟨_, rfl⟩ | ⟨_, rfl⟩ <;> exact ⟨_, rfl⟩) (fun a b d e => by cases e) fun a b c d e => by cases e
theorem notN_bl : ∀ ds d, P.notN.f ds = some d → ∃ b, d = .bl b := bl_f1 (fun a d e => by rcases notN_e e with ⟨_, rfl⟩ | ⟨_, rfl⟩ <;> exact ⟨_, rfl⟩) (fun a b d e => by cases e) fun a b c d e => by cases e
theorem eq_bl : ∀ ds d, P.eq.f ds = some d → ∃ b, d = .bl b := bl_f1 (fun a d e => by cases e) (fun a b d e => by rcases eq_e e with ⟨_, _, _, _, rfl⟩ | ⟨_, _, rfl⟩ <;> exact ⟨_, rfl⟩) fun a b c d e => by cases e
theorem ne_bl : ∀ ds d, P.ne.f ds = some d → ∃ b, d = .bl b := bl_f1 (fun a d e => by cases e) (fun a b d e => by rcases ne_e e with ⟨_, _, _, _, rfl⟩ | ⟨_, _, rfl⟩ <;> exact ⟨_, rfl⟩) fun a b c d e => by cases e
theorem in_bl : ∀ ds d, P.inn.f ds = some d → ∃ b, d = .bl b := bl_f1 (fun a d e => by cases e) (fun a b d e => by obtain ⟨k, _, rfl⟩ := in_e e; exact ⟨_, rfl⟩) fun a b c d e => by cases e
theorem notin_bl : ∀ ds d, P.notin.f ds = some d → ∃ b, d = .bl b := bl_f1 (fun a d e => by cases e) (fun a b d e => by obtain ⟨k, _, rfl⟩ := notin_e e; exact ⟨_, rfl⟩) fun a b c d e => by cases e
theorem cmp_bl {p : P} (h : p = .lt ∨ p = .le ∨ p = .gt ∨ p = .ge) : ∀ ds d, p.f ds = some d → ∃ b, d = .bl b := by
  rcases h with rfl | rfl | rfl | rfl <;> refine bl_f1 (fun a d e => by cases e) (fun a b d e => ?_) (fun a b c d e => by cases e) <;> (cases a <;> cases b <;> first | (cases e; done) | (cases e; exact ⟨_, rfl⟩))
theorem isB_bl : ∀ ds d, P.isB.f ds = some d → ∃ b, d = .bl b := bl_f1 (fun a d e => by cases e) (fun a b d e => by cases a <;> cases b <;> first | (cases e; done) | (cases e; exact ⟨_, rfl⟩)) fun a b c d e => by cases e
theorem notB_bl : ∀ ds d, P.notB.f ds = some d → ∃ b, d = .bl b := bl_f1 (fun a d e => by cases e) (fun a b d e => by cases a <;> cases b <;> first | (cases e; done) | (cases e; exact ⟨_, rfl⟩)) fun a b c d e => by cases e
theorem ok_isN {j : Nat} {p2 : Pos} (ha : PE X a (tE X.K W .v A)) (hm : behindInMarks .Is (.Constant .none j p2) = false) : Ok X W (.Compare a [.Is] [.Constant .none j p2] pos) (.prim .isN [A]) :=
  Ok.bl (okE_isN ha hm) (pt_cmp (pc_isN ha) hm) (blE_prim isN_bl) fun _ _ _ h => tE_one (tE_prim prim_isN h)
theorem ok_notN {j : Nat} {p2 : Pos} (ha : PE X a (tE X.K W .v A)) (hm : behindInMarks .IsNot (.Constant .none j p2) = false) : Ok X W (.Compare a [.IsNot] [.Constant .none j p2] pos) (.prim .notN [A]) :=
  Ok.bl (okE_notN ha hm) (pt_cmp (pc_notN ha) hm) (blE_prim notN_bl) fun _ _ _ h => tE_one (tE_prim prim_notN h)

/-! ### a < b < c -/
theorem drs_two {μ : Mu} {x y : Wp.A} {ds : List D} (h : drs μ [x, y] = some ds) : ∃ d e, dr μ x = some d ∧ dr μ y = some e ∧ ds = [d, e] := by
  rw [drs.eq_2] at h
  cases h1 : dr μ x with
  | none => rw [h1] at h; cases h
  | some d =>
    rw [h1, drs.eq_2] at h
    cases h2 : dr μ y with
    | none => rw [h2] at h; cases h
    | some e =>
      rw [h2, drs.eq_1] at h
      cases h
      exact ⟨d, e, rfl, rfl, rfl⟩
/-- reading then operating keeps what is read of data -/
theorem rnA {K : Frag} {F H : Hp} {m : List Addr} {μ : Mu} (S : Sim K F m μ H) {v : V} {x : Wp.A} {d : D} (r : RepA K F m v x) (e : dr μ x = some d) : Rn K F H v d := S.dr r e
theorem tE_chain {K : Frag} {p q : P} {r r' : R2} (hp : PrimN K .v (rr2 r) p.f) (hq : PrimN K .v (rr2 r') q.f) (hpb : ∀ ds d, p.f ds = some d → ∃ b, d = .bl b) {σ : L2.St} {H : Hp} {Q : VK} (h : tE K W .v (.chain p q A B C) σ H Q) :
    tChain r r' (tE K W .v A) (tE K W .v B) (tE K W .v C) σ H Q := by
  obtain ⟨F, m, μ, ρ, S, R, h⟩ := h
  unfold ev at h
  refine ⟨F, m, μ, ρ, S, R, (h.bind).imp (fun F1 H1 μ1 x s1 S1 h v1 r1 => ?_) fun _ _ _ _ _ x => x⟩
  have R1 := R.mono s1
  refine ⟨F1, m, μ1, ρ, S1, R1, (h.bind).imp (fun F2 H2 μ2 y s2 S2 h v2 r2 => ?_) fun _ _ _ _ _ x => x⟩
  have R2 := R1.mono s2
  cases e1 : drs μ2 [x, y] with
  | none => rw [e1] at h; exact (show False from h).elim
  | some ds =>
    rw [e1] at h
    have hx : Post K F2 m _ _ ((optR (p.f ds) μ2).bind _) := h
    clear h
    cases e2 : p.f ds with
    | none => rw [e2] at hx; exact (show False from hx).elim
    | some res =>
      rw [e2] at hx
      obtain ⟨k, rfl⟩ := hpb ds res e2
      obtain ⟨d, e, e3, e4, rfl⟩ := drs_two e1
      have hr := hp F2 m μ2 H2 [v1, v2] [d, e] (.bl k) (fun z H3 => ∃ k, z = .bl k ∧ (if k = true then tE K W .v C σ H3 fun w' H4 => r' v2 w' H4 Q else Q (.bl false) H3)) S2 (.cons (S2.dr (r1.mono s2) e3) (.cons (S2.dr r2 e4) .nil)) e2 fun F3 H3 z s3 S3 rz => by
        cases (show Rep K F3 z (.bl k) from rz)
        refine ⟨k, rfl, ?_⟩
        have h3 := Post.weakF s3 hx
        cases k with
        | false => rw [if_neg Bool.false_ne_true]; exact Post.ok h3 S3 _ (.bl false)
        | true =>
          rw [if_pos rfl]
          refine ⟨F3, m, μ2, ρ, S3, R2.mono s3, ((show Post K F3 m _ _ ((ev C ρ μ2).bind _) from h3).bind).imp (fun F4 H4 μ4 z s4 S4 h v4 r4 => ?_) fun _ _ _ _ _ x => x⟩
          cases e5 : drs μ4 [y, z] with
          | none => rw [e5] at h; exact (show False from h).elim
          | some ds2 =>
            rw [e5] at h
            have hy : Post K F4 m _ _ ((optR (q.f ds2) μ4).bind _) := h
            clear h
            cases e6 : q.f ds2 with
            | none => rw [e6] at hy; exact (show False from hy).elim
            | some res2 =>
              rw [e6] at hy
              obtain ⟨d', e', e7, e8, rfl⟩ := drs_two e5
              obtain ⟨x', y', ee, hh⟩ := hq F4 m μ4 H4 [v2, v4] [d', e'] res2 Q S4 (.cons (S4.dr ((r2.mono s3).mono s4) e7) (.cons (S4.dr r4 e8) .nil)) e6 fun F5 H5 w s5 S5 rw' => hy F5 H5 s5 S5 w rw'
              cases ee
              exact hh
      obtain ⟨x', y', ee, hh⟩ := hr
      cases ee
      exact hh
theorem chain_bl {p q : P} (hq : ∀ ds d, q.f ds = some d → ∃ b, d = .bl b) : BlE (.chain p q A B C) := by
  intro ρ μ x μ' h
  unfold ev at h
  cases q1 : ev A ρ μ with
  | no => rw [q1] at h; cases h
  | exc c d μ' => rw [q1] at h; cases h
  | ok a μ1 =>
    rw [q1] at h
    have h : (ev B ρ μ1).bind _ = _ := h
    cases q2 : ev B ρ μ1 with
    | no => rw [q2] at h; cases h
    | exc c d μ' => rw [q2] at h; cases h
    | ok b μ2 =>
      rw [q2] at h
      have h : (optR ((drs μ2 [a, b]).bind p.f) μ2).bind _ = _ := h
      cases q3 : (drs μ2 [a, b]).bind p.f with
      | none => rw [q3] at h; cases h
      | some r =>
        rw [q3] at h
        cases r with
        | bl k =>
          cases k with
          | false => cases h; exact ⟨false, rfl⟩
          | true =>
            have h : (ev C ρ μ2).bind _ = _ := h
            cases q4 : ev C ρ μ2 with
            | no => rw [q4] at h; cases h
            | exc c d μ' => rw [q4] at h; cases h
            | ok c μ4 =>
              rw [q4] at h
              have h : (optR ((drs μ4 [b, c]).bind q.f) μ4).bind _ = _ := h
              cases q5 : drs μ4 [b, c] with
              | none => rw [q5] at h; cases h
              | some ds =>
                rw [q5] at h
                have h : (optR (q.f ds) μ4).bind _ = _ := h
                cases q6 : q.f ds with
                | none => rw [q6] at h; cases h
                | some r =>
                  rw [q6] at h
                  cases h
                  obtain ⟨b, rfl⟩ := hq ds r q6
                  exact ⟨b, rfl⟩
        | _ => cases h
theorem ok_chain {op op' : CmpOp} {p q : P} {r r' : R2} (ho : OpR X (compareOp op) r) (ho' : OpR X (compareOp op') r') (hp : PrimN X.K .v (rr2 r) p.f) (hq : PrimN X.K .v (rr2 r') q.f) (hpb : ∀ ds d, p.f ds = some d → ∃ b, d = .bl b) (hqb : ∀ ds d, q.f ds = some d → ∃ b, d = .bl b)
    (ha : PE X a (tE X.K W .v A)) (hb : PE X b (tE X.K W .v B)) (hc : PE X c (tE X.K W .v C)) (hm : lastMarks [op, op'] [b, c] = false) : Ok X W (.Compare a [op, op'] [b, c] pos) (.chain p q A B C) :=
  Ok.bl (PE.imp (pe_chain ho ho' ha hb hc hm) fun _ _ _ h => tE_chain hp hq hpb h) (pt_chain ho ho' ha hb hc hm) (chain_bl hqb) fun _ _ _ h => tE_chain hp hq hpb h
/-- a global's value -/
theorem okE_g {n : String} {d : D} {v : V} (h : PE X e (tC v)) (r : ∀ F, Rep X.K F v d) : PE X e (tE X.K W .v (.g n d)) := by
  refine PE.imp h fun σ H Q h => ?_
  obtain ⟨F, m, μ, ρ, S, R, h⟩ := h
  rw [ev] at h
  exact h F H (Same.refl F) S v (r F)
end
end Wp

set_option Elab.async false
set_option linter.all false
set_option maxRecDepth 100000
set_option autoImplicit true
/-! W2f: keyword calls; methods of texts and lists; lists changed. -/
namespace Wp
open PySem PySem.Spec PyProof.Rows L2

theorem vals_get {vs : List V} {us : List Value} (h : Vals vs us) (i : Nat) : (∃ v u, vs[i]? = some v ∧ us[i]? = some u ∧ RelV v u) ∨ (vs[i]? = none ∧ us[i]? = none) := by
  cases e : vs[i]? with
  | some v =>
    obtain ⟨u, e2, r⟩ := h.get e
    exact .inl ⟨v, u, rfl, e2, r⟩
  | none =>
    refine .inr ⟨rfl, ?_⟩
    rw [List.getElem?_eq_none_iff] at e ⊢
    rw [← h.length]; exact e
theorem vals_pg (perm : List Nat) {vs zs : List V} {us ws : List Value} (h1 : Vals vs us) (h2 : Vals zs ws) : Vals (pg perm vs zs) (pg perm us ws) := by
  have h := h1.append h2
  unfold pg
  induction perm with
  | nil => exact .nil
  | cons i is ih =>
    rw [List.filterMap_cons, List.filterMap_cons]
    rcases vals_get h i with ⟨v, u, e1, e2, r⟩ | ⟨e1, e2⟩
    · rw [e1, e2]; exact .cons r ih
    · rw [e1, e2]; exact ih
/-- a call's keywords bind -/
theorem kbn_of {K : Frag} {fd : FuncData} {ps : List Str} {n : Nat} {ks : List Str} {perm : List Nat} (h : ∀ us ws : List Value, us.length = n → ws.length = ks.length → bindArgs fd ⟨us, ks.zip ws⟩ = pure (ps.zip (pg perm us ws))) : KBn K fd ps n ks (pg perm) (pg perm) :=
  ⟨fun s us ws _ h1 h2 => .of_eq (h us ws h1 h2), fun h1 h2 => vals_pg perm h1 h2⟩
theorem repAs_pg {K : Frag} {F : Hp} {m : List Addr} {vs zs : List V} {as bs as' : LA} {perm : List Nat} (h1 : RepAs K F m vs as) (h2 : RepAs K F m zs bs) (e : permute perm (as ++ bs) = some as') : RepAs K F m (pg perm vs zs) as' ∧ (pg perm vs zs).length = perm.length := by
  have app : ∀ {vs as zs bs}, RepAs K F m vs as → RepAs K F m zs bs → RepAs K F m (vs ++ zs) (as ++ bs) := by
    intro vs as zs bs h1 h2
    induction h1 with
    | nil => exact h2
    | cons r t ih => exact .cons r ih
  have h := app h1 h2
  have get : ∀ {vs : List V} {as : LA} {i : Nat} {a}, RepAs K F m vs as → as[i]? = some a → ∃ v, vs[i]? = some v ∧ RepA K F m v a := by
    intro vs as i a h
    induction h generalizing i with
    | nil => intro e; simp at e
    | cons r t ih =>
      intro e
      cases i with
      | zero => simp at e; subst e; exact ⟨_, rfl, r⟩
      | succ i => simpa using ih (by simpa using e)
  unfold permute at e
  unfold pg
  induction perm generalizing as' with
  | nil =>
    cases e
    exact ⟨.nil, rfl⟩
  | cons i is ih =>
    rw [List.mapM_cons] at e
    cases e1 : (as ++ bs)[i]? with
    | none => rw [e1] at e; cases e
    | some a =>
      rw [e1] at e
      cases e2 : is.mapM (fun i => (as ++ bs)[i]?) with
      | none =>
        rw [e2] at e; cases e
      | some l =>
        rw [e2] at e
        cases e
        obtain ⟨v, e3, r⟩ := get h e1
        obtain ⟨t, hl⟩ := ih e2
        rw [List.filterMap_cons, e3]
        exact ⟨.cons r t, congrArg Nat.succ hl⟩

section
variable {X : Cx} {W : WX} {e a b c : Expr} {es : List Expr} {A B C : E} {As Bs : List E} {pos : Pos}
theorem PK.imp {kws : List Keyword} {t t' : TA} (h : PK X kws t) (i : ∀ σ H Q, t' σ H Q → t σ H Q) : PK X kws t' := ⟨fun pos pins s σ H Q I q => h.run pos pins s σ H Q I (i σ H Q q)⟩
theorem okK_nil : PK X [] (tEs X.K W []) := by
  refine PK.imp pk_nil fun σ H Q h => ?_
  obtain ⟨F, m, μ, ρ, S, R, h⟩ := h
  exact h F H (Same.refl F) S [] .nil
theorem okK_cons {kws : List Keyword} {nm : Option Str} {kpos : Pos} (ha : PE X e (tE X.K W .v A)) (hr : PK X kws (tEs X.K W As)) : PK X (⟨nm, e, kpos⟩ :: kws) (tEs X.K W (A :: As)) :=
  PK.imp (pk_cons ha hr) fun _ _ _ h => tEs_cons h
theorem run_fnkS {pins : List (Addr × Obj)} {σ : L2.St} {H : Hp} {s : Shared} {Q : VK} {us ws : List Value} {vs zs : List V} {CX : CXT} {k : Nat} {f : Addr} {fd : FuncData} {ps ks : List Str} {n : Nat} {g : List Value → List Value → List Value} {gV : List V → List V → List V} {sp : Sp} {E : L2.St → XK}
    (F : FnOk X.prog X.w X.K X.mg X.base CX k f fd ps sp) (hr : Room k X.A) (hb : KBn X.K fd ps n ks g gV) (hx : PassesAt CX X σ (E σ))
    (I : Inv X pins σ H s) (r : Vals vs us) (rz : Vals zs ws) (h1 : vs.length = n) (h2 : zs.length = ks.length) (h : sp (gV vs zs) H Q (E σ)) : wpAny (model X.prog X.w) X.A (call (.ref f) us (ks.zip ws)) (EP X pins σ Q) X.xe s := by
  have r2 := hb.rel r rz
  refine wpAny_call (codeAny_mono (F.run X.A X.stack s H ⟨us, ks.zip ws⟩ (g us ws) (gV vs zs) Q (E σ) hr I.env0 (hb.to s us ws I.kIn (by rw [← r.length]; exact h1) (by rw [← rz.length]; exact h2)) r2 h) fun r s' hq => ?_)
  cases r with
  | error e => exact hx pins H s e s' I hq
  | ok fl =>
    cases fl with
    | ret u => exact I.after hq
    | next => exact False.elim hq
    | brk => exact False.elim hq
    | cont => exact False.elim hq
theorem tE_callK {K : Frag} {f : String} {F : Fn} {ks : List String} {perm : List Nat} {new : Md} {σ : L2.St} {H : Hp} {Q : VK} {n : Nat} (hn : perm.length = n) (h : tE K W new (.callK f F As ks perm Bs) σ H Q) :
    tEs K W As σ H fun vs H1 => vs.length = As.length ∧ tEs K W Bs σ H1 fun zs H2 => zs.length = Bs.length ∧ spOf K n new F (pg perm vs zs) H2 Q (WE W σ) := by
  obtain ⟨Fz, m, μ, ρ, S, R, h⟩ := h
  unfold ev at h
  refine ⟨Fz, m, μ, ρ, S, R, (h.bind).withEq.imp (fun F1 H1 μ1 as s1 S1 q vs rs => ?_) fun _ _ _ _ _ x => x⟩
  obtain ⟨q, eq⟩ := q
  refine ⟨by rw [Paired.length rs]; exact evs_length _ _ _ _ _ eq, F1, m, μ1, ρ, S1, R.mono s1, (q.bind).withEq.imp (fun F2 H2 μ2 bs s2 S2 q zs rz => ?_) fun _ _ _ _ _ x => x⟩
  obtain ⟨q, eq2⟩ := q
  refine ⟨by rw [Paired.length rz]; exact evs_length _ _ _ _ _ eq2, ?_⟩
  cases e1 : permute perm (as ++ bs) with
  | none => rw [e1] at q; exact (show False from q).elim
  | some as' =>
    rw [e1] at q
    have q : Post K F2 m _ _ ((F as' μ2).bind _) := q
    obtain ⟨r, hl⟩ := repAs_pg (RepAs.mono s2 rs) rz e1
    refine ⟨hl.trans hn, F2, m, μ2, as', S2, r, (q.bind).imp (fun F3 H3 μ3 d s3 S3 q3 v r3 => ?_) fun _ _ _ _ _ x => x⟩
    exact Post.ok q3 S3 v r3
theorem okE_callK {x : Str} {f : String} {F : Fn} {n k : Nat} {new : Md} {ps : Pos} {kw : List (Nat × List Str × List Nat)} {ks : List Str} {ks' : List String} {perm : List Nat} {kws : List Keyword} (hF : FnAt X.prog X.w X.K X.mg X.base k x n new F kw) (hr : Room k X.A) (hg : Gl X x) (tk : Takes X W)
    (hc : (As.length, ks, perm) ∈ kw) (hn : perm.length = n) (hkl : Bs.length = ks.length) (ha : PA X (e :: es) (tEs X.K W As)) (hkw : PK X kws (tEs X.K W Bs))
    (hall : (backToKw pos (keywordEach kws X.env)).all (·.1.isSome) = true) (hks : (backToKw pos (keywordEach kws X.env)).filterMap (·.1) = ks) (hdb : (x == ("__debug__" : Str)) = false)
    (he : starEach (e :: es) X.env = (false, eval e X.env) :: starEach es X.env) (hpl : ((backTo pos (starEach (e :: es) X.env)).any (·.1) || (backToKw pos (keywordEach kws X.env)).any (·.1.isNone)) = false) :
    PE X (.Call (.Name x ps) (e :: es) kws pos) (tE X.K W new (.callK f F As ks' perm Bs)) := by
  obtain ⟨fa, fd, pn, hm, hk, hb, hkb, G⟩ := hF.at_
  refine ⟨fun pins s σ H Q I h => ?_⟩
  have h := tE_callK hn h
  refine wpAny_Call_Name_kw (ld_glob I hg hm ?_ hdb)
  refine PySem.W.callWith_KW (h₀ := X.base) I.ok.mod.kin hk hall (thn (ha.run pos pins s σ H _ I h) fun us s1 ⟨vs, H1, I1, r, hl, q⟩ => ?_) hpl he
  refine thn (hkw.run pos pins s1 σ H1 _ I1 q) fun ws s2 ⟨zs, H2, I2, rz, hl2, q2⟩ => ⟨I2.kIn, ?_⟩
  rw [hks]
  exact run_fnkS G hr (hkb _ hc) (passAt tk σ) I2 r rz hl (hl2.trans hkl) q2
theorem okE_callK0 {x : Str} {f : String} {F : Fn} {n k : Nat} {new : Md} {ps : Pos} {kw : List (Nat × List Str × List Nat)} {ks : List Str} {ks' : List String} {perm : List Nat} {kws : List Keyword} (hF : FnAt X.prog X.w X.K X.mg X.base k x n new F kw) (hr : Room k X.A) (hg : Gl X x) (tk : Takes X W)
    (hc : (0, ks, perm) ∈ kw) (hn : perm.length = n) (hkl : Bs.length = ks.length) (hkw : PK X kws (tEs X.K W Bs))
    (hall : (backToKw pos (keywordEach kws X.env)).all (·.1.isSome) = true) (hks : (backToKw pos (keywordEach kws X.env)).filterMap (·.1) = ks) (hdb : (x == ("__debug__" : Str)) = false)
    (hpl : ((backTo pos (starEach [] X.env)).any (·.1) || (backToKw pos (keywordEach kws X.env)).any (·.1.isNone)) = false) :
    PE X (.Call (.Name x ps) [] kws pos) (tE X.K W new (.callK f F [] ks' perm Bs)) := by
  obtain ⟨fa, fd, pn, hm, hk, hb, hkb, G⟩ := hF.at_
  refine ⟨fun pins s σ H Q I h => ?_⟩
  have h := tE_callK hn h
  obtain ⟨F0, m, μ, ρ, S, R, h⟩ := h
  obtain ⟨hl, h⟩ := Post.ok h S [] .nil
  refine wpAny_Call_Name_kw (ld_glob I hg hm ?_ hdb)
  refine PySem.W.callWith_KW0 (h₀ := X.base) I.ok.mod.kin hk hall ?_ hpl
  refine thn (hkw.run pos pins s σ H _ I h) fun ws s2 ⟨zs, H2, I2, rz, hl2, q2⟩ => ⟨I2.kIn, ?_⟩
  rw [hks]
  exact run_fnkS (us := []) (vs := []) G hr (hkb _ hc) (passAt tk σ) I2 .nil rz hl (hl2.trans hkl) q2
end
end Wp

set_option Elab.async false
set_option linter.all false
set_option maxRecDepth 100000
set_option autoImplicit true
/-! W2g: methods of lists; lists changed. -/
namespace Wp
open PySem PySem.Spec PyProof.Rows L2

section
variable {X : Cx} {W : WX} {e a b c : Expr} {es : List Expr} {A B C : E} {As Bs : List E} {pos : Pos}

/-! ### methods of values -/
theorem tE_meth {K : Frag} {md : Md} {p : P} {T : String} {r : V → List V → Hp → VK → Prop} (hp : PrimN K md (fun vs H Q => ∃ x xs, vs = x :: xs ∧ r x xs H Q) p.f)
    (hT : ∀ (F : Hp) (m : List Addr) (μ : Mu) (H : Hp) (v : V) (d : D), Sim K F m μ H → Rn K F H v d → recv p (some d) = true → tyV K T v H) {σ : L2.St} {H : Hp} {Q : VK} (h : tE K W md (.meth p A As) σ H Q) : tBM K T r (tE K W .v A) (tEs K W As) σ H Q := by
  obtain ⟨F, m, μ, ρ, S, R, h⟩ := h
  unfold ev at h
  refine ⟨F, m, μ, ρ, S, R, (h.bind).imp (fun F1 H1 μ1 x s1 S1 h v1 r1 => ?_) fun _ _ _ _ _ x => x⟩
  cases e1 : dr μ1 x with
  | none =>
    rw [e1] at h
    have e2 : recv p none = false := by cases p <;> rfl
    rw [e2] at h
    exact (show False from h).elim
  | some d =>
    rw [e1] at h
    by_cases e2 : recv p (some d) = true
    · rw [if_pos e2] at h
      refine ⟨hT F1 m μ1 H1 v1 d S1 (S1.dr r1 e1) e2, F1, m, μ1, ρ, S1, R.mono s1, (h.bind).imp (fun F2 H2 μ2 as s2 S2 h vs rs => ?_) fun _ _ _ _ _ x => x⟩
      cases e3 : drs μ2 (x :: as) with
      | none => rw [e3] at h; exact (show False from h).elim
      | some ds =>
        rw [e3] at h
        have h : Post K F2 m _ _ ((optR (p.f ds) μ2).bind _) := h
        cases e4 : p.f ds with
        | none => rw [e4] at h; exact (show False from h).elim
        | some res =>
          rw [e4] at h
          obtain ⟨x', xs, e5, hh⟩ := hp F2 m μ2 H2 (v1 :: vs) ds res Q S2 (drs_rel S2 (.cons (r1.mono s2) rs) e3) e4 fun F3 H3 w s3 S3 rw' => h F3 H3 s3 S3 w rw'
          cases e5
          exact hh
    · rw [if_neg e2] at h
      exact (show False from h).elim
theorem ty_list {K : Frag} : ∀ (F : Hp) (m : List Addr) (μ : Mu) (H : Hp) (v : V) (d : D), Sim K F m μ H → Rn K F H v d → recv .index (some d) = true → tyV K "list" v H := by
  intro F m μ H v d S r e
  cases d <;> try (cases e; done)
  obtain ⟨a, vs, rfl, h1, h2⟩ := S.seqL r
  exact .inl ⟨rfl, vs, h1⟩
theorem ty_str {K : Frag} {p : P} (hp : ∀ d, recv p (some d) = true → ∃ s, d = .str s) : ∀ (F : Hp) (m : List Addr) (μ : Mu) (H : Hp) (v : V) (d : D), Sim K F m μ H → Rn K F H v d → recv p (some d) = true → tyV K "str" v H := by
  intro F m μ H v d S r e
  obtain ⟨s, rfl⟩ := hp d e
  cases r.str
  exact rfl
theorem findD_e {d : D} : ∀ {ds : List D} {k j : Nat}, findD d k ds = some j → ∃ i x, j = k + i ∧ ds[i]? = some x ∧ D.eqv x d = true ∧ ∀ (m : Nat) y, m < i → ds[m]? = some y → D.eqv y d = false
  | [], k, j, h => by cases h
  | x :: ds, k, j, h => by
    unfold findD at h
    by_cases e : D.eqv x d = true
    · rw [if_pos e] at h
      cases h
      exact ⟨0, x, rfl, rfl, e, fun m y hm => absurd hm (Nat.not_lt_zero _)⟩
    · rw [if_neg e] at h
      obtain ⟨i, y, e1, e2, e3, e4⟩ := findD_e h
      refine ⟨i + 1, y, by omega, by simpa using e2, e3, fun m z hm hz => ?_⟩
      cases m with
      | zero =>
        simp at hz
        subst hz
        simpa using e
      | succ m => exact e4 m z (by omega) (by simpa using hz)
theorem toPys_get : ∀ {ds : List D} {i : Nat}, (toPys ds)[i]? = (ds[i]?).map toPy
  | [], i => by simp [toPys]
  | d :: ds, 0 => by simp [toPys]
  | d :: ds, i + 1 => by simp [toPys, toPys_get (ds := ds) (i := i)]
theorem okNs_get : ∀ {n : Nat} {ds : List D} {i : Nat} {d : D}, D.okNs n ds = true → ds[i]? = some d → D.okN n d = true
  | n, [], i, d, _, h => by simp at h
  | n, x :: ds, 0, d, e, h => by
    rw [D.okNs, Bool.and_eq_true] at e
    simp at h
    subst h
    exact e.1
  | n, x :: ds, i + 1, d, e, h => by
    rw [D.okNs, Bool.and_eq_true] at e
    exact okNs_get e.2 (by simpa using h)
theorem prim_index {K : Frag} : PrimN K .v (fun vs H Q => ∃ x xs, vs = x :: xs ∧ rIndexD K x xs H Q) P.index.f := by
  have h : PrimN K .v (rr2 fun x y H Q => rIndexD K x [y] H Q) P.index.f := by
    refine prim2 (fun _ => rfl) (fun _ _ _ => rfl) fun F m μ H x y a b res Q S r1 r2 e q => ?_
    cases a <;> try (cases e; done)
    rename_i l
    have e : (if (okD b && D.okNs 59 l) = true then (findD b 0 l).map (fun j : Nat => D.int j) else none) = some res := by
      rw [← e]
      cases b <;> rfl
    split at e
    · rename_i hk
      rw [Bool.and_eq_true] at hk
      cases e1 : findD b 0 l with
      | none => rw [e1] at e; cases e
      | some j =>
        rw [e1] at e
        cases e
        obtain ⟨i, z, e2, e3, e4, e5⟩ := findD_e e1
        have h3 : D.okN 60 (.lst l) = true := by simpa [D.okN] using hk.2
        have hl60 := okNs_mono 59 60 l (by omega) hk.2
        obtain ⟨p, vs, rfl, _⟩ := S.lstH r1
        have r3 := rn_dp S r1 h3
        have h4 := shaped_of h3
        rw [toPy] at r3 h4
        have e6 : j = i := by omega
        subst e6
        refine ⟨p, y, toPy b, toPys l, j, toPy z, rfl, rfl, r3, rn_dp S r2 hk.1, h4, shaped_of hk.1, ?_, ?_, ?_, q F H _ (Same.refl F) S (.int _)⟩
        · rw [toPys_get, e3]; rfl
        · rw [eqv_py 60 z b (okNs_get hl60 e3) hk.1]; exact e4
        · intro m z' hm hz
          rw [toPys_get] at hz
          cases e7 : l[m]? with
          | none => rw [e7] at hz; cases hz
          | some w =>
            rw [e7] at hz
            cases hz
            rw [eqv_py 60 w b (okNs_get hl60 e7) hk.1]
            exact e5 m w hm e7
    · cases e
  intro F m μ H vs ds res Q S r e q
  obtain ⟨x, y, rfl, hq⟩ := h F m μ H vs ds res Q S r e q
  exact ⟨x, [y], rfl, hq⟩
theorem okE_index {o : Expr} {apos : Pos} (hu : X.A.units + 65 < cLine) (ho : PE X o (tE X.K W .v A)) (ha : PA X [e] (tEs X.K W [B])) (hbase : attributeBase o "index" X.env (eval o X.env) = eval o X.env)
    (hfew : ((backTo pos (starEach [e] X.env)).all (fun x => !x.1) && (backToKw pos (keywordEach [] X.env)).all (fun x => x.1.isSome)
      && decide (([e] : List Expr).length + ([] : List Keyword).length + (if ([] : List Keyword).isEmpty then 0 else 1) < 30)) = true)
    (hline : (apos.endLine == pos.line) = true) (hs : starEach [e] X.env = (false, eval e X.env) :: starEach [] X.env) (hplain : (backTo pos (starEach [] X.env)).any (·.1) = false) :
    PE X (.Call (.Attribute o "index" apos) [e] [] pos) (tE X.K W .v (.meth .index A [B])) :=
  PE.imp (pe_bm F.plainAttrs_list F.slot_list_index F.type_list_index (mt_indexD hu) ho ha hbase hfew hline hs hplain) fun _ _ _ h => tE_meth prim_index ty_list h

/-! ### a list changed -/
theorem Sim.isL {K : Frag} {F H : Hp} {m : List Addr} {μ : Mu} {n : Nat} {v : V} (S : Sim K F m μ H) (r : RepA K F m v (.c n)) (h : Wp.isL μ n = true) : tyV K "list" v H := by
  obtain ⟨a, e1, rfl⟩ := r
  unfold Wp.isL at h
  split at h
  · rename_i fz xs e2
    have hc := S.cell n a _ e1 e2
    cases fz with
    | false =>
      obtain ⟨vs, h1, _⟩ := hc
      exact .inl ⟨rfl, vs, .of h1⟩
    | true =>
      obtain ⟨vs, h1, _⟩ := hc
      exact .inl ⟨rfl, vs, .of (S.sub _ _ h1)⟩
  · cases h
theorem tE_mut {K : Frag} {p : Mt} {r : V → List V → Hp → VK → Prop}
    (hp : ∀ (F H : Hp) (m : List Addr) (μ : Mu) (n : Nat) (a : Addr) (xs : List D) (vs us : List V) (ds : List D) (c : Wp.C) (d : D) (Q : VK), Sim K F m μ H → m[n]? = some a → μ[n]? = some ⟨false, .lst xs⟩ → H a = some (.lst vs) → Reps K F vs xs → F a = none → Reps K F us ds →
      p.f (.lst xs) ds = some (c, d) → (∀ H' v, Sim K F m (μ.set n ⟨false, c⟩) H' → Rep K F v d → Q v H') → r (.ref a) us H Q) {σ : L2.St} {H : Hp} {Q : VK} (h : tE K W .v (.mut p A As) σ H Q) : tBM K "list" r (tE K W .v A) (tEs K W As) σ H Q := by
  obtain ⟨F, m, μ, ρ, S, R, h⟩ := h
  unfold ev at h
  refine ⟨F, m, μ, ρ, S, R, (h.bind).imp (fun F1 H1 μ1 x s1 S1 h v1 r1 => ?_) fun _ _ _ _ _ x => x⟩
  cases x with
  | v d => exact (show False from h).elim
  | t d => exact (show False from h).elim
  | c n =>
    dsimp only at h
    by_cases e2 : Wp.isL μ1 n = true
    · rw [if_pos e2] at h
      refine ⟨S1.isL r1 e2, F1, m, μ1, ρ, S1, R.mono s1, (h.bind).imp (fun F2 H2 μ2 as s2 S2 h vs rs => ?_) fun _ _ _ _ _ x => x⟩
      obtain ⟨a, e1, rfl⟩ := r1
      cases e3 : μ2[n]? with
      | none => rw [e3] at h; exact (show False from h).elim
      | some cc =>
        obtain ⟨fz, c⟩ := cc
        rw [e3] at h
        cases e4 : vals as with
        | none =>
          rw [e4] at h
          cases fz <;> exact (show False from h).elim
        | some ds =>
          rw [e4] at h
          cases fz with
          | true => exact (show False from h).elim
          | false =>
            dsimp only at h
            cases e5 : p.f c ds with
            | none => rw [e5] at h; exact (show False from h).elim
            | some cd =>
              obtain ⟨c', d⟩ := cd
              rw [e5] at h
              have hc := S2.cell n a _ e1 e3
              cases c with
              | lst xs =>
                obtain ⟨ws, h1, h2, h3⟩ := hc
                exact hp F2 H2 m μ2 n a xs ws vs ds c' d Q S2 e1 e3 h1 h2 h3 (vals_rel rs e4) e5 fun H' v S' r' => h F2 H' (Same.refl _) S' v r'
              | _ => cases p <;> cases ds <;> cases e5
    · rw [if_neg e2] at h
      exact (show False from h).elim
theorem mut_append {K : Frag} {σ : L2.St} {H : Hp} {Q : VK} (h : tE K W .v (.mut .append A As) σ H Q) : tBM K "list" rAppend (tE K W .v A) (tEs K W As) σ H Q := by
  refine tE_mut (fun F H m μ n a xs vs us ds c d Q S e1 e2 h1 h2 h3 r e q => ?_) h
  match ds, us, r, e with
  | [], _, _, e => cases e
  | [y], _, .cons (v := u) ry .nil, e =>
    have e : (if xs.length < SL then some (Wp.C.lst (xs ++ [y]), D.non) else none) = some (c, d) := e
    split at e
    · rename_i hl
      cases e
      exact ⟨a, vs, u, rfl, rfl, h1, by rw [h2.length, ← sl_eq]; exact hl, q _ _ (S.write e1 e2 (by simp) ⟨_, upd_same, h2.append (.cons ry .nil), h3⟩) .non⟩
    · cases e
  | _ :: _ :: _, _, _, e => cases e
theorem mut_extend {K : Frag} {σ : L2.St} {H : Hp} {Q : VK} (h : tE K W .v (.mut .extend A As) σ H Q) : tBM K "list" rExtend (tE K W .v A) (tEs K W As) σ H Q := by
  refine tE_mut (fun F H m μ n a xs vs us ds c d Q S e1 e2 h1 h2 h3 r e q => ?_) h
  match ds, us, r, e with
  | [], _, _, e => cases e
  | [y], _, .cons (v := u) ry .nil, e =>
    cases y <;> try (cases e; done)
    rename_i ys
    cases ry with
    | lst k1 k2 =>
      rename_i b ws
      have e : (if xs.length + ys.length ≤ SL then some (Wp.C.lst (xs ++ ys), D.non) else none) = some (c, d) := e
      split at e
      · rename_i hl
        cases e
        exact ⟨a, b, vs, ws, rfl, rfl, h1, S.sub _ _ k1, by rw [h2.length, k2.length, ← sl_eq]; exact hl, q _ _ (S.write (c' := .lst (xs ++ ys)) e1 e2 (by simp) ⟨_, upd_same, h2.append k2, h3⟩) .non⟩
      · cases e
  | y :: _ :: _, _, _, e => cases y <;> cases e
theorem Reps.dropLast {K : Frag} {F : Hp} {vs : List V} {ds : List D} (r : Reps K F vs ds) : Reps K F vs.dropLast ds.dropLast := by
  rw [List.dropLast_eq_take, List.dropLast_eq_take, r.length]
  exact r.take _
theorem mut_pop {K : Frag} {σ : L2.St} {H : Hp} {Q : VK} (h : tE K W .v (.mut .pop A As) σ H Q) : tBM K "list" rPop (tE K W .v A) (tEs K W As) σ H Q := by
  refine tE_mut (fun F H m μ n a xs vs us ds c d Q S e1 e2 h1 h2 h3 r e q => ?_) h
  match ds, us, r, e with
  | [], _, .nil, e =>
    have e : (match xs[xs.length - 1]? with | some d => some (Wp.C.lst xs.dropLast, d) | none => none) = some (c, d) := e
    cases e3 : xs[xs.length - 1]? with
    | none => rw [e3] at e; cases e
    | some y =>
      rw [e3] at e
      cases e
      obtain ⟨v, ev, rv⟩ := h2.get e3
      exact ⟨a, vs, v, rfl, rfl, h1, by rw [h2.length]; exact ev, q _ _ (S.write (c' := .lst xs.dropLast) e1 e2 (by simp) ⟨_, upd_same, h2.dropLast, h3⟩) rv⟩
  | _ :: _, _, _, e => cases e
theorem okE_append {o : Expr} {apos : Pos} (ho : PE X o (tE X.K W .v A)) (ha : PA X [e] (tEs X.K W As)) (hbase : attributeBase o "append" X.env (eval o X.env) = eval o X.env)
    (hfew : ((backTo pos (starEach [e] X.env)).all (fun x => !x.1) && (backToKw pos (keywordEach [] X.env)).all (fun x => x.1.isSome)
      && decide (([e] : List Expr).length + ([] : List Keyword).length + (if ([] : List Keyword).isEmpty then 0 else 1) < 30)) = true)
    (hline : (apos.endLine == pos.line) = true) (hs : starEach [e] X.env = (false, eval e X.env) :: starEach [] X.env) (hplain : (backTo pos (starEach [] X.env)).any (·.1) = false) :
    PE X (.Call (.Attribute o "append" apos) [e] [] pos) (tE X.K W .v (.mut .append A As)) :=
  PE.imp (pe_bm F.plainAttrs_list F.slot_list_append F.type_list_append mt_append ho ha hbase hfew hline hs hplain) fun _ _ _ h => mut_append h
theorem okE_extend {o : Expr} {apos : Pos} (ho : PE X o (tE X.K W .v A)) (ha : PA X [e] (tEs X.K W As)) (hbase : attributeBase o "extend" X.env (eval o X.env) = eval o X.env)
    (hfew : ((backTo pos (starEach [e] X.env)).all (fun x => !x.1) && (backToKw pos (keywordEach [] X.env)).all (fun x => x.1.isSome)
      && decide (([e] : List Expr).length + ([] : List Keyword).length + (if ([] : List Keyword).isEmpty then 0 else 1) < 30)) = true)
    (hline : (apos.endLine == pos.line) = true) (hs : starEach [e] X.env = (false, eval e X.env) :: starEach [] X.env) (hplain : (backTo pos (starEach [] X.env)).any (·.1) = false) :
    PE X (.Call (.Attribute o "extend" apos) [e] [] pos) (tE X.K W .v (.mut .extend A As)) :=
  PE.imp (pe_bm F.plainAttrs_list F.slot_list_extend F.type_list_extend mt_extend ho ha hbase hfew hline hs hplain) fun _ _ _ h => mut_extend h
theorem okE_pop {o : Expr} {apos : Pos} (ho : PE X o (tE X.K W .v A)) (hbase : attributeBase o "pop" X.env (eval o X.env) = eval o X.env) (hline : (apos.endLine == pos.line) = true) :
    PE X (.Call (.Attribute o "pop" apos) [] [] pos) (tE X.K W .v (.mut .pop A [])) := by
  refine PE.imp (pe_bm0 F.plainAttrs_list F.slot_list_pop F.type_list_pop mt_pop ho hbase hline) fun σ H Q h => tE.imp (mut_pop h) fun x H1 q => ?_
  obtain ⟨ty, F, m, μ, ρ, S, R, h⟩ := q
  rw [evs] at h
  exact ⟨ty, h F H1 (Same.refl F) S [] .nil⟩
end
end Wp

set_option Elab.async false
set_option linter.all false
set_option maxRecDepth 100000
set_option autoImplicit true
/-! W2h: dicts. -/
namespace Wp
open PySem PySem.Spec PyProof.Rows L2

def keyD : Key → D
  | .inl i => .int i
  | .inr s => .str s.cps.toList
theorem sx_back (s : Str) : sx s.cps.toList = s := by
  cases s with
  | mk c => simp [sx]
theorem rep_key {K : Frag} {F : Hp} {k : Key} {d : D} (r : Rep K F (kV k) d) : d = keyD k := by
  cases k with
  | inl i =>
    generalize hv : kV (.inl i) = v at r
    cases r <;> cases hv
    rfl
  | inr s =>
    generalize hv : kV (.inr s) = v at r
    cases r <;> cases hv
    simp [keyD, sx]
theorem key_rep {K : Frag} {F : Hp} (k : Key) : Rep K F (kV k) (keyD k) := by
  cases k with
  | inl i => exact .int i
  | inr s =>
    show Rep K F (.str s) (.str s.cps.toList)
    have := Rep.str (K := K) (F := F) s.cps.toList
    rwa [sx_back] at this
theorem keyD_eq (a b : Key) : D.eqv (keyD a) (keyD b) = decide (a = b) := by
  cases a <;> cases b
  · rename_i s t
    simp only [keyD, D.eqv]
    rw [Bool.eq_iff_iff]
    simp
  · simp [keyD, D.eqv]
  · simp [keyD, D.eqv]
  · rename_i s t
    simp only [keyD, D.eqv]
    rw [Bool.eq_iff_iff]
    simp only [beq_iff_eq, decide_eq_true_eq, Sum.inr.injEq]
    refine ⟨fun h => ?_, fun h => by rw [h]⟩
    rw [← sx_back s, ← sx_back t, h]
theorem keysD_eq : ∀ (a b : List Key), D.eqvs (a.map keyD) (b.map keyD) = decide (a = b)
  | [], [] => by simp [D.eqvs]
  | [], _ :: _ => by simp [D.eqvs]
  | _ :: _, [] => by simp [D.eqvs]
  | x :: a, y :: b => by
    simp only [List.map_cons, D.eqvs]
    rw [keyD_eq, keysD_eq a b, Bool.eq_iff_iff]
    simp
def keyT (k : List Key) : D := .tup (k.map keyD)
theorem keyT_eq (a b : List Key) : D.eqv (keyT a) (keyT b) = decide (a = b) := by
  unfold keyT
  rw [D.eqv]
  exact keysD_eq a b
theorem reps_keys {K : Frag} {F : Hp} : ∀ {ks : List Key} {es : List D}, Reps K F (ks.map kV) es → es = ks.map keyD
  | [], _, .nil => rfl
  | k :: ks, _, .cons a b => by rw [rep_key a, reps_keys b]; rfl
/-- a value of a key's kind -/
theorem keyK_of {K : Frag} {F : Hp} {v : V} {d : D} (r : Rep K F v d) (h : isKeyK d = true) : ∃ k : Key, v = kV k ∧ d = keyD k := by
  cases d <;> try (cases h; done)
  · cases r
    exact ⟨.inl _, rfl, rfl⟩
  · cases r
    exact ⟨.inr _, rfl, by simp [keyD, sx]⟩
theorem keysK_of {K : Frag} {F : Hp} : ∀ {vs : List V} {es : List D}, Reps K F vs es → es.all isKeyK = true → ∃ ks : List Key, vs = ks.map kV ∧ es = ks.map keyD
  | _, _, .nil, _ => ⟨[], rfl, rfl⟩
  | _, _, .cons a b, h => by
    rw [List.all_cons, Bool.and_eq_true] at h
    obtain ⟨k, rfl, rfl⟩ := keyK_of a h.1
    obtain ⟨ks, rfl, rfl⟩ := keysK_of b h.2
    exact ⟨k :: ks, rfl, rfl⟩

section
variable {κ : Type} [DecidableEq κ] {kd : κ → D} {R : V → D → Prop}
/-- the entries -/
def Ent (kd : κ → D) (R : V → D → Prop) (p : κ × V) (q : D × D) : Prop := q.1 = kd p.1 ∧ R p.2 q.2
theorem ent_look (heq : ∀ a b, D.eqv (kd a) (kd b) = decide (a = b)) (k : κ) : ∀ {ks : List (κ × V)} {kvs : List (D × D)}, Paired (Ent kd R) ks kvs →
    (valV ks k = none ∧ dLook (kd k) kvs = none) ∨ ∃ v d, valV ks k = some v ∧ dLook (kd k) kvs = some d ∧ R v d
  | _, _, .nil => .inl ⟨rfl, rfl⟩
  | (a, v) :: ks, (x, y) :: kvs, .cons r t => by
    obtain ⟨e, rv⟩ := r
    cases e
    by_cases h : a = k
    · refine .inr ⟨v, y, valV_pos h, ?_, rv⟩
      rw [dLook, heq, if_pos (by simpa using h)]
    · rw [valV_neg (p := (a, v)) h, dLook, heq, if_neg (by simpa using h)]
      exact ent_look heq k t
theorem ent_any (heq : ∀ a b, D.eqv (kd a) (kd b) = decide (a = b)) (k : κ) : ∀ {ks : List (κ × V)} {kvs : List (D × D)}, Paired (Ent kd R) ks kvs → (ks.any fun kv => decide (kv.1 = k)) = kvs.any fun p => D.eqv p.1 (kd k)
  | _, _, .nil => rfl
  | (a, v) :: ks, (x, y) :: kvs, .cons r t => by
    obtain ⟨e, rv⟩ := r
    cases e
    rw [List.any_cons, List.any_cons, ent_any heq k t, heq]
theorem ent_map (heq : ∀ a b, D.eqv (kd a) (kd b) = decide (a = b)) (k : κ) {v : V} {d : D} (r : R v d) {ks : List (κ × V)} {kvs : List (D × D)} (h : Paired (Ent kd R) ks kvs) :
    Paired (Ent kd R) (ks.map fun kv => if kv.1 = k then (kv.1, v) else kv) (kvs.map fun p => if D.eqv p.1 (kd k) then (p.1, d) else p) := by
  induction h with
  | nil => exact .nil
  | @cons p q ks kvs hp t ih =>
    rw [List.map_cons, List.map_cons]
    refine .cons ?_ ih
    obtain ⟨e, rv⟩ := hp
    rw [e, heq]
    by_cases h : p.1 = k
    · rw [if_pos h, if_pos (by simpa using h)]; exact ⟨rfl, r⟩
    · rw [if_neg h, if_neg (by simpa using h)]; exact ⟨e, rv⟩
theorem ent_put (heq : ∀ a b, D.eqv (kd a) (kd b) = decide (a = b)) (k : κ) {v : V} {d : D} (r : R v d) {ks : List (κ × V)} {kvs : List (D × D)} (h : Paired (Ent kd R) ks kvs) : Paired (Ent kd R) (putK ks k v) (dPut (kd k) d kvs) := by
  unfold putK dPut
  rw [ent_any heq k h]
  split
  · exact ent_map heq k r h
  · exact Paired.snoc h ⟨rfl, r⟩
end
theorem paired_len {α β : Type} {R : α → β → Prop} : ∀ {l : List α} {m : List β}, Paired R l m → l.length = m.length := fun h => Paired.length h
/-- cell n, a dict, with this key: what the kit's rules ask -/
theorem cell_get {K : Frag} {F H : Hp} {m : List Addr} {μ : Mu} {n : Nat} {a : Addr} {fz : Bool} {c : Wp.C} {v : V} {k : Wp.A} {o : Option D} (S : Sim K F m μ H) (e1 : m[n]? = some a) (e2 : μ[n]? = some ⟨fz, c⟩) (r : RepA K F m v k) (e : dictAt c k = some o) :
    ∃ ov : Option V, DGet H a v ov ∧ (ov = none ∧ o = none ∨ ∃ x d, ov = some x ∧ o = some d ∧ Rep K F x d) := by
  have hc := S.cell n a _ e1 e2
  cases c with
  | dead => cases k <;> cases e
  | lst xs => cases k <;> cases e
  | dK kvs =>
    have hc : ∃ ks : List (Key × V), H a = some (.dK ks) ∧ F a = none ∧ Paired (fun (p : Key × V) (q : D × D) => Rep K F (kV p.1) q.1 ∧ Rep K F p.2 q.2) ks kvs := by cases fz <;> exact hc
    obtain ⟨ks, h1, h2, h3⟩ := hc
    have h3 : Paired (Ent keyD (Rep K F)) ks kvs := Paired.imp h3 fun p q z => ⟨rep_key z.1, z.2⟩
    cases k with
    | v d =>
      have e : (if isKeyK d = true then some d else none).map (fun k => dLook k kvs) = some o := e
      split at e
      · rename_i hk
        cases e
        obtain ⟨k, rfl, rfl⟩ := keyK_of r hk
        refine ⟨valV ks k, DGet.k h1, ?_⟩
        rcases ent_look keyD_eq k h3 with ⟨e1, e2⟩ | ⟨x, d, e1, e2, e3⟩
        · exact .inl ⟨e1, e2⟩
        · exact .inr ⟨x, d, e1, e2, e3⟩
      · cases e
    | c n => cases e
    | t d => cases e
  | dT kvs =>
    have hc : ∃ ks : List (List Key × V), H a = some (.dT ks) ∧ F a = none ∧ Paired (fun (p : List Key × V) (q : D × D) => (∃ es, q.1 = .tup es ∧ Reps K F (p.1.map kV) es) ∧ Rep K F p.2 q.2) ks kvs := by cases fz <;> exact hc
    obtain ⟨ks, h1, h2, h3⟩ := hc
    have h3 : Paired (Ent keyT (Rep K F)) ks kvs := Paired.imp h3 fun p q z => by
      obtain ⟨⟨es, z1, z2⟩, z3⟩ := z
      exact ⟨by rw [z1, reps_keys z2]; rfl, z3⟩
    cases k with
    | t d =>
      have e : (if isKeyT d = true then some d else none).map (fun k => dLook k kvs) = some o := e
      split at e
      · rename_i hk
        cases e
        cases d <;> try (cases hk; done)
        rename_i es
        obtain ⟨b, vs, rfl, f1, f2⟩ := (show RepT K F v (.tup es) from r)
        obtain ⟨k, rfl, rfl⟩ := keysK_of f2 hk
        refine ⟨valV ks k, DGet.t h1 (S.sub _ _ f1), ?_⟩
        rcases ent_look keyT_eq k h3 with ⟨e1, e2⟩ | ⟨x, d, e1, e2, e3⟩
        · exact .inl ⟨e1, e2⟩
        · exact .inr ⟨x, d, e1, e2, e3⟩
      · cases e
    | c n => cases e
    | v d => cases e
theorem cell_put {K : Frag} {F H : Hp} {m : List Addr} {μ : Mu} {n : Nat} {a : Addr} {c c' : Wp.C} {v u : V} {k : Wp.A} {d : D} (S : Sim K F m μ H) (e1 : m[n]? = some a) (e2 : μ[n]? = some ⟨false, c⟩) (r : RepA K F m v k) (ru : Rep K F u d) (e : updD c k d = some c') :
    ∃ H', DPut H a v u H' ∧ Sim K F m (μ.set n ⟨false, c'⟩) H' := by
  have hc := S.cell n a _ e1 e2
  cases c with
  | dead => cases k <;> cases e
  | lst xs => cases k <;> cases e
  | dK kvs =>
    obtain ⟨ks, h1, h2, h3⟩ := hc
    have h3 : Paired (Ent keyD (Rep K F)) ks kvs := Paired.imp h3 fun p q z => ⟨rep_key z.1, z.2⟩
    cases k with
    | v kd =>
      have e : ((if isKeyK kd = true then some kd else none).bind fun k => if kvs.length < SL then some (Wp.C.dK (dPut k d kvs)) else none) = some c' := e
      split at e
      · rename_i hk
        have e : (if kvs.length < SL then some (Wp.C.dK (dPut kd d kvs)) else none) = some c' := e
        split at e
        · rename_i hl
          cases e
          obtain ⟨k, rfl, rfl⟩ := keyK_of r hk
          refine ⟨_, DPut.k h1 (by rw [Paired.length h3, ← sl_eq]; exact hl), S.write e1 e2 (by simp) ⟨_, upd_same, h2, Paired.imp (ent_put keyD_eq k ru h3) fun p q z => ⟨by rw [z.1]; exact key_rep _, z.2⟩⟩⟩
        · cases e
      · cases e
    | c n => cases e
    | t d => cases e
  | dT kvs =>
    obtain ⟨ks, h1, h2, h3⟩ := hc
    have h3 : Paired (Ent keyT (Rep K F)) ks kvs := Paired.imp h3 fun p q z => by
      obtain ⟨⟨es, z1, z2⟩, z3⟩ := z
      exact ⟨by rw [z1, reps_keys z2]; rfl, z3⟩
    cases k with
    | t kd =>
      have e : ((if isKeyT kd = true then some kd else none).bind fun k => if kvs.length < SL then some (Wp.C.dT (dPut k d kvs)) else none) = some c' := e
      split at e
      · rename_i hk
        have e : (if kvs.length < SL then some (Wp.C.dT (dPut kd d kvs)) else none) = some c' := e
        split at e
        · rename_i hl
          cases e
          obtain ⟨es, rfl⟩ : ∃ es, kd = .tup es := by cases kd <;> first | (cases hk; done) | exact ⟨_, rfl⟩
          obtain ⟨b, vs, rfl, f1, f2⟩ := (show RepT K F v (.tup es) from r)
          obtain ⟨k, rfl, rfl⟩ := keysK_of f2 hk
          have reps_of : ∀ l : List Key, Reps K F (l.map kV) (l.map keyD) := by
            intro l
            induction l with
            | nil => exact .nil
            | cons x l ih => exact .cons (key_rep x) ih
          refine ⟨_, DPut.t h1 (S.sub _ _ f1) (by rw [Paired.length h3, ← sl_eq]; exact hl), S.write e1 e2 (by simp) ⟨_, upd_same, h2, Paired.imp (ent_put keyT_eq k ru h3) fun p q z => ⟨⟨_, z.1, reps_of _⟩, z.2⟩⟩⟩
        · cases e
      · cases e
    | c n => cases e
    | v d => cases e

section
variable {X : Cx} {W : WX} {n0 : Nat} {new : Md} {e a b c o i : Expr} {es : List Expr} {A B C : E} {As Bs : List E} {pos : Pos}
/-- reading x[k], k in x: x a dict's cell -/
theorem tE_look {K : Frag} {p : Lk} {σ : L2.St} {H : Hp} {Q : VK} (h : tE K W .v (.look p A [B]) σ H Q) :
    tE K W .v A σ H fun x H1 => tE K W .v B σ H1 fun y H2 => ∃ (F : Hp) (m : List Addr) (μ : Mu) (n : Nat) (a : Addr) (fz : Bool) (c : Wp.C) (k : Wp.A) (d : D), Sim K F m μ H2 ∧ x = .ref a ∧ m[n]? = some a ∧ μ[n]? = some ⟨fz, c⟩ ∧ RepA K F m y k ∧ p.f c [k] = some d ∧ (∀ v, Rep K F v d → Q v H2) := by
  obtain ⟨F, m, μ, ρ, S, R, h⟩ := h
  unfold ev at h
  refine ⟨F, m, μ, ρ, S, R, (h.bind).imp (fun F1 H1 μ1 x s1 S1 h v1 r1 => ?_) fun _ _ _ _ _ x => x⟩
  cases x with
  | v d => exact (show False from h).elim
  | t d => exact (show False from h).elim
  | c n =>
    dsimp only at h
    by_cases e2 : Wp.isD μ1 n = true
    · rw [if_pos e2] at h
      refine ⟨F1, m, μ1, ρ, S1, R.mono s1, ?_⟩
      unfold evs at h
      have h := (h.bind).bind
      refine h.imp (fun F2 H2 μ2 y s2 S2 h v2 r2 => ?_) fun _ _ _ _ _ x => x
      obtain ⟨a, e1, rfl⟩ := r1
      have h : Post K F2 m _ _ ((evs [] ρ μ2).bind fun as μ3 => Res.ok (y :: as) μ3) := h
      rw [evs.eq_1] at h
      have h := Post.ok h S2
      cases e3 : μ2[n]? with
      | none => rw [e3] at h; exact (show False from h).elim
      | some cc =>
        obtain ⟨fz, c⟩ := cc
        rw [e3] at h
        dsimp only at h
        cases e4 : p.f c [y] with
        | none => rw [e4] at h; exact (show False from h).elim
        | some d =>
          rw [e4] at h
          exact ⟨F2, m, μ2, n, a, fz, c, y, d, S2, rfl, e1, e3, r2, e4, fun v rv => Post.ok h S2 v rv⟩
    · rw [if_neg e2] at h
      exact (show False from h).elim
theorem okE_get (hu : X.A.units + 1 < cLine) (ho : PE X o (tE X.K W .v A)) (hi : PE X i (tE X.K W .v B)) (hs : NoSl i) : PE X (.Subscript o i pos) (tE X.K W .v (.look .get A [B])) := by
  refine PE.imp (pe_dget hu ho hi hs) fun σ H Q h => tE.imp (tE_look h) fun x H1 q => tE.imp q fun y H2 q => ?_
  obtain ⟨F, m, μ, n, a, fz, c, k, d, S, rfl, e1, e2, r, e, q⟩ := q
  have e : (dictAt c k).bind id = some d := e
  cases e3 : dictAt c k with
  | none => rw [e3] at e; cases e
  | some od =>
    rw [e3] at e
    cases (show od = some d from e)
    obtain ⟨ov, hg, hv⟩ := cell_get S e1 e2 r e3
    rcases hv with ⟨_, z⟩ | ⟨x, d', rfl, z, rx⟩
    · cases z
    · cases z
      exact ⟨a, x, rfl, hg, q x rx⟩
/-- k in d: the key first -/
theorem tE_inD {K : Frag} {p : Bool} {σ : L2.St} {H : Hp} {Q : VK} (h : tE K W .v (.inD p B A) σ H Q) :
    tE K W .v B σ H fun y H1 => tE K W .v A σ H1 fun x H2 => ∃ (a : Addr) (ov : Option V), x = .ref a ∧ DGet H2 a y ov ∧ Q (.bl (if p then ov.isSome else !ov.isSome)) H2 := by
  obtain ⟨F, m, μ, ρ, S, R, h⟩ := h
  unfold ev at h
  refine ⟨F, m, μ, ρ, S, R, (h.bind).imp (fun F1 H1 μ1 k s1 S1 h v1 r1 => ?_) fun _ _ _ _ _ x => x⟩
  refine ⟨F1, m, μ1, ρ, S1, R.mono s1, (h.bind).imp (fun F2 H2 μ2 x s2 S2 h v2 r2 => ?_) fun _ _ _ _ _ x => x⟩
  cases x with
  | v d => exact (show False from h).elim
  | t d => exact (show False from h).elim
  | c n =>
    obtain ⟨a, e1, rfl⟩ := r2
    dsimp only at h
    cases e3 : μ2[n]? with
    | none => rw [e3] at h; exact (show False from h).elim
    | some cc =>
      obtain ⟨fz, c⟩ := cc
      rw [e3] at h
      dsimp only at h
      cases e4 : dictAt c k with
      | none => rw [e4] at h; exact (show False from h).elim
      | some od =>
        rw [e4] at h
        obtain ⟨ov, hg, hv⟩ := cell_get S2 e1 e3 (r1.mono s2) e4
        refine ⟨a, ov, rfl, hg, ?_⟩
        have e5 : ov.isSome = od.isSome := by
          rcases hv with ⟨rfl, rfl⟩ | ⟨x, d, rfl, rfl, _⟩ <;> rfl
        rw [e5]
        exact Post.ok h S2 _ (.bl _)
theorem inD_bl {p : Bool} : BlE (.inD p B A) := by
  intro ρ μ x μ' h
  unfold ev at h
  cases q1 : ev B ρ μ with
  | no => rw [q1] at h; cases h
  | exc c d μ' => rw [q1] at h; cases h
  | ok k μ1 =>
    rw [q1] at h
    have h : (ev A ρ μ1).bind _ = _ := h
    cases q2 : ev A ρ μ1 with
    | no => rw [q2] at h; cases h
    | exc c d μ' => rw [q2] at h; cases h
    | ok y μ2 =>
      rw [q2] at h
      cases y with
      | v d => cases h
      | t d => cases h
      | c n =>
        have h : (match μ2[n]? with
          | some ⟨_, c⟩ => (match dictAt c k with
            | some o => Res.ok (Wp.A.v (.bl (if p then o.isSome else !o.isSome))) μ2
            | none => .no)
          | none => .no) = Res.ok x μ' := h
        split at h
        · split at h
          · cases h
            exact ⟨_, rfl⟩
          · cases h
        · cases h
theorem ok_inD (hu : X.A.units + 1 < cLine) (hi : PE X i (tE X.K W .v B)) (ho : PE X o (tE X.K W .v A)) (hm : behindInMarks .In o = false) : Ok X W (.Compare i [.In] [o] pos) (.inD true B A) := by
  have k : ∀ σ H Q, tE X.K W .v (.inD true B A) σ H Q → tDIn (tE X.K W .v B) (tE X.K W .v A) σ H Q := fun σ H Q h => tE.imp (tE_inD h) fun y H1 q => tE.imp q fun x H2 q => q
  exact Ok.bl (PE.imp (pe_cmp (pc_din hu hi ho) hm) k) (pt_cmp (pc_din hu hi ho) hm) inD_bl k
theorem ok_notinD (hu : X.A.units + 1 < cLine) (hi : PE X i (tE X.K W .v B)) (ho : PE X o (tE X.K W .v A)) (hm : behindInMarks .NotIn o = false) : Ok X W (.Compare i [.NotIn] [o] pos) (.inD false B A) := by
  have k : ∀ σ H Q, tE X.K W .v (.inD false B A) σ H Q → tDNotIn (tE X.K W .v B) (tE X.K W .v A) σ H Q := fun σ H Q h => tE.imp (tE_inD h) fun y H1 q => tE.imp q fun x H2 q => q
  exact Ok.bl (PE.imp (pe_cmp (pc_dnotin hu hi ho) hm) k) (pt_cmp (pc_dnotin hu hi ho) hm) inD_bl k
/-- x[k] = v, x a dict -/
theorem okS_updD {o k v : Expr} {xo kk vv : E} {ps : Pos} (hu : X.A.units + 1 < cLine) (ho : PE X o (tE X.K W .v xo)) (hk : PE X k (tE X.K W .v kk)) (hv : PE X v (tE X.K W .v vv))
    (hs : swapsWith v (some (.Subscript o k ps)) pos.line X.env = pure false) : PS X (.Assign [.Subscript o k ps] v pos) (tS X.K W n0 new (.updD xo kk vv)) := by
  refine PS.imp (ps_dput hu ho hk hv hs) fun D σ H h => ?_
  obtain ⟨F, m, μ, ρ, S, R, h⟩ := h
  rw [ex] at h
  refine ⟨F, m, μ, ρ, S, R, (post_st R h).imp (fun F1 H1 μ1 va s1 S1 q v1 r1 => ?_) fun _ _ _ _ _ x => x⟩
  refine ⟨F1, m, μ1, ρ, S1, R.mono s1, (post_st (R.mono s1) q).imp (fun F2 H2 μ2 xa s2 S2 q v2 r2 => ?_) fun _ _ _ _ _ x => x⟩
  have R2 := (R.mono s1).mono s2
  refine ⟨F2, m, μ2, ρ, S2, R2, (post_st R2 q).imp (fun F3 H3 μ3 ka s3 S3 q v3 r3 => ?_) fun _ _ _ _ _ x => x⟩
  cases va with
  | v vd =>
    cases xa with
    | c n =>
      obtain ⟨a, e1, rfl⟩ := r2
      dsimp only at q
      cases e2 : μ3[n]? with
      | none => rw [e2] at q; exact (show False from q).elim
      | some cc =>
        obtain ⟨fz, c⟩ := cc
        rw [e2] at q
        cases fz with
        | true => exact (show False from q).elim
        | false =>
          dsimp only at q
          cases e3 : updD c ka vd with
          | none => rw [e3] at q; exact (show False from q).elim
          | some c' =>
            rw [e3] at q
            obtain ⟨H4, hp, S4⟩ := cell_put S3 e1 e2 r3 ((show Rep X.K F1 v1 vd from r1).mono (s2.trans s3)) e3
            exact ⟨a, H4, rfl, hp, q F3 m H4 σ (Same.refl _) rfl S4 (R2.mono s3)⟩
    | _ => exact (show False from q).elim
  | _ => exact (show False from q).elim
/-- x = {} -/
theorem okS_newDK {x : Str} {i j : Nat} {ps pd : Pos} (hN : X.N.Nodup) (hi : X.N[i]? = some x) (hx : Loc X.env.scope x) (hf : X.fn x = true ∨ X.env.scope.names.lookup x = some .local) (hs : swapsWith (.Dict [] [] pd) (some (.Name x ps)) pos.line X.env = pure false) :
    PS X (.Assign [.Name x ps] (.Dict [] [] pd) pos) (tS X.K W n0 new (.newD i j (.dK []))) := by
  refine PS.imp (ps_set hN hi hx pe_dnewK hs hf) fun D σ H h => ?_
  obtain ⟨F, m, μ, ρ, S, R, h⟩ := h
  rw [ex] at h
  intro p hp
  split at h
  · rename_i hl
    have hm : n0 + j < m.length := by rw [S.len]; exact hl.2
    have S1 := (S.laid (o := .dK []) hp).newCell (n := n0 + j) (a := p) (c := ⟨false, .dK []⟩) hl.2 ⟨[], upd_same, S.sub.free hp, .nil⟩ (fun i c e1 e2 => S.notCell hp i c e1 e2)
    exact h F _ _ _ (Same.refl F) (take_set_ge m (Nat.le_add_right _ _) p) S1 (R.newCell hm hl.1)
  · exact (show False from h).elim
theorem okS_newDT {x : Str} {i j : Nat} {ps pd : Pos} (hN : X.N.Nodup) (hi : X.N[i]? = some x) (hx : Loc X.env.scope x) (hf : X.fn x = true ∨ X.env.scope.names.lookup x = some .local) (hs : swapsWith (.Dict [] [] pd) (some (.Name x ps)) pos.line X.env = pure false) :
    PS X (.Assign [.Name x ps] (.Dict [] [] pd) pos) (tS X.K W n0 new (.newD i j (.dT []))) := by
  refine PS.imp (ps_set hN hi hx pe_dnewT hs hf) fun D σ H h => ?_
  obtain ⟨F, m, μ, ρ, S, R, h⟩ := h
  rw [ex] at h
  intro p hp
  split at h
  · rename_i hl
    have hm : n0 + j < m.length := by rw [S.len]; exact hl.2
    have S1 := (S.laid (o := .dT []) hp).newCell (n := n0 + j) (a := p) (c := ⟨false, .dT []⟩) hl.2 ⟨[], upd_same, S.sub.free hp, .nil⟩ (fun i c e1 e2 => S.notCell hp i c e1 e2)
    exact h F _ _ _ (Same.refl F) (take_set_ge m (Nat.le_add_right _ _) p) S1 (R.newCell hm hl.1)
  · exact (show False from h).elim
end
end Wp

set_option Elab.async false
set_option linter.all false
set_option maxRecDepth 100000
set_option autoImplicit true
/-! W3a: the rule for a def. -/
namespace Wp
open PySem PySem.Spec PyProof.Rows L2

section
variable {P : Program} {w : World} {K : Frag} {mg : Str → Option Value} {base : Heap}
/-- a def's context -/
abbrev Xof (P : Program) (w : World) (K : Frag) (mg : Str → Option Value) (base : Heap) (N : List Str) (qual : Str) (scope : Scope) (f : Addr) (cdv : Value) (A : Around) (outer : List PySem.Env) (s : Shared) (H : Hp) (E : XK) : Cx := cxOf (L2.CX P w) P w K mg base N qual scope f cdv A outer s H E
end
end Wp
namespace Wp
open PySem PySem.Spec PyProof.Rows L2
section
variable {P : Program} {w : World} {K : Frag} {mg : Str → Option Value} {base : Heap}
abbrev WOf (E : XK) : WX := fun cls d _ H => E cls d H
theorem takes_X {N : List Str} {qual : Str} {scope : Scope} {f : Addr} {cdv : Value} {A : Around} {outer : List PySem.Env} {s : Shared} {H : Hp} {E : XK} : Takes (Xof P w K mg base N qual scope f cdv A outer s H E) (WOf E) :=
  takes_of (E := E) rfl rfl rfl rfl
theorem passes_X {N : List Str} {qual : Str} {scope : Scope} {f : Addr} {cdv : Value} {A : Around} {outer : List PySem.Env} {s : Shared} {H : Hp} {E : XK} : PassesOwn (model P w) (Xof P w K mg base N qual scope f cdv A outer s H E).A (Xof P w K mg base N qual scope f cdv A outer s H E).env (Xof P w K mg base N qual scope f cdv A outer s H E).xe :=
  passes_of (X := Xof P w K mg base N qual scope f cdv A outer s H E) rfl
theorem start_rep {K : Frag} {F : Hp} {m : List Addr} {vs : List V} {as : LA} {N : List Str} {slots : Nat} (h : RepAs K F m vs as) (hN : N.length = slots) : RepS K F m (L2.start N vs) (as.map some ++ List.replicate (slots - as.length) none) := by
  have hl := Paired.length h
  unfold L2.start
  refine ⟨by simp [hl, hN], fun i a e => ?_⟩
  have hi : i < as.length := by
    by_cases hi : i < as.length
    · exact hi
    · rw [List.getElem?_append_right (by simpa using hi), List.getElem?_replicate] at e
      split at e <;> cases e
  rw [List.getElem?_append_left (by simpa using hi), List.getElem?_map] at e
  rw [List.getElem?_append_left (by simpa [hl] using hi), List.getElem?_map]
  have get : ∀ {vs : List V} {as : LA} {i : Nat} {a}, RepAs K F m vs as → as[i]? = some a → ∃ v, vs[i]? = some v ∧ RepA K F m v a := by
    intro vs as i a h
    induction h generalizing i with
    | nil => intro e; simp at e
    | cons r t ih =>
      intro e
      cases i with
      | zero => simp at e; subst e; exact ⟨_, rfl, r⟩
      | succ i => simpa using ih (by simpa using e)
  cases e2 : as[i]? with
  | none => rw [e2] at e; cases e
  | some b =>
    rw [e2] at e
    cases e
    obtain ⟨v, e3, r⟩ := get h e2
    exact ⟨v, by rw [e3]; rfl, r⟩
theorem RepA.app {K : Frag} {F : Hp} {m : List Addr} {v : V} {a : Wp.A} (l : List Addr) (h : RepA K F m v a) : RepA K F (m ++ l) v a := by
  cases a with
  | v d => exact h
  | t d => exact h
  | c n =>
    obtain ⟨b, e, rfl⟩ := h
    exact ⟨b, by rw [List.getElem?_append_left (List.getElem?_eq_some_iff.mp e).1]; exact e, rfl⟩
theorem Sim.dead {K : Frag} {F H : Hp} {m : List Addr} {μ : Mu} (S : Sim K F m μ H) (n : Nat) : Sim K F (m ++ List.replicate n 0) (μ ++ List.replicate n ⟨false, .dead⟩) H := by
  have low : ∀ (i : Nat) a c, (m ++ List.replicate n 0)[i]? = some a → (μ ++ List.replicate n ⟨false, .dead⟩)[i]? = some c → (m[i]? = some a ∧ μ[i]? = some c) ∨ c = ⟨false, .dead⟩ := by
    intro i a c e1 e2
    by_cases hi : i < m.length
    · rw [List.getElem?_append_left hi] at e1
      rw [List.getElem?_append_left (by rw [← S.len]; exact hi)] at e2
      exact .inl ⟨e1, e2⟩
    · rw [List.getElem?_append_right (by rw [← S.len]; omega), List.getElem?_replicate] at e2
      split at e2
      · cases e2; exact .inr rfl
      · cases e2
  refine ⟨by simp [S.len], S.sub, fun i a c e1 e2 => ?_, fun i j a c c' e1 e2 e3 e4 l1 l2 => ?_⟩
  · rcases low i a c e1 e2 with ⟨h1, h2⟩ | rfl
    · exact S.cell i a c h1 h2
    · exact True.intro
  · rcases low i a c e1 e3 with ⟨h1, h2⟩ | rfl
    · rcases low j a c' e2 e4 with ⟨h3, h4⟩ | rfl
      · exact S.inj i j a c c' h1 h3 h2 h4 l1 l2
      · exact l2.elim
    · exact l1.elim
theorem RepR.non {K : Frag} {F : Hp} {m : List Addr} {μ : Mu} {H : Hp} (md : Md) : RepR K md F m μ H .non (.v .non) := by
  cases md <;> exact Rep.non
/-- the def's promise from its body's reading -/
theorem sp_run {df : Df} {N : List Str} {md : Md} {n : Nat} {vs : List V} {H : Hp} {Q : VK} {E : XK} (hN : N.length = df.slots) (h : spOf K n md df.run vs H Q E) :
    ∃ n0, tSs K (WOf E) n0 md df.body { nx := fun _ H' => Q .non H', rt := Q } (L2.start N vs) H := by
  obtain ⟨hl, F, m, μ, as, S, rs, h⟩ := h
  have hm : (m ++ List.replicate df.cells 0).take μ.length = m := by rw [← S.len]; simp
  refine ⟨μ.length, F, m ++ List.replicate df.cells 0, μ ++ List.replicate df.cells ⟨false, .dead⟩, as.map some ++ List.replicate (df.slots - as.length) none, S.dead df.cells, ?_, ?_⟩
  · have R := start_rep rs hN
    exact ⟨R.len, fun i a e => let ⟨v, e1, r⟩ := R.get i a e; ⟨v, e1, r.app _⟩⟩
  · unfold Df.run at h
    cases e : exs μ.length df.body (as.map some ++ List.replicate (df.slots - as.length) none) (μ ++ List.replicate df.cells ⟨false, .dead⟩) with
    | nx ρ' μ' =>
      rw [e] at h
      intro F' m' H' σ' s t S' R'
      have S2 := S'.take μ.length
      rw [t, hm] at S2
      exact h F' H' s S2 .non (RepR.non md)
    | ret d μ' =>
      rw [e] at h
      intro F' H' v s S' r
      rw [hm] at S' r
      exact h F' H' s S' v r
    | exc c d ρ' μ' =>
      rw [e] at h
      intro F' m' H' σ' cls dx s t S' R' x
      have S2 := S'.take μ.length
      rw [t, hm] at S2
      exact h F' H' cls dx s S2 x
    | brk ρ' μ' => rw [e] at h; exact (show False from h).elim
    | cnt ρ' μ' => rw [e] at h; exact (show False from h).elim
    | no => rw [e] at h; exact h
/-- THE RULE for a def -/
theorem okFn {x qual : Str} {params : Arguments} {body : List Stmt} {scope : Scope} {f : Addr} {fd : FuncData} {N ps : List Str} {k n : Nat} {md : Md} {df : Df} (F : FunD K x qual params body scope [] [] f fd) (S : C8.scC N ps scope = true) (hn : ps.length = n) (hN : N.length = df.slots)
    (hbody : ∀ (cdv : Value) (A : Around) (outer : List PySem.Env) (s : Shared) (H : Hp) (E : XK) (n0 : Nat), Room k (A.deeper (envOfC qual scope s.heap.objs.size f cdv)) → PSs (Xof P w K mg base N qual scope f cdv A outer s H E) body (tSs K (WOf E) n0 md df.body)) :
    FnOk P w K mg base (L2.CX P w) (k + 1) f fd ps (spOf K n md df.run) := by
  refine F.ok (C8.fnScope_by S) (fun vs H Q E h => h.1.trans hn.symm) fun cdv A outer s H vs Q E hr hsp => ?_
  obtain ⟨n0, h⟩ := sp_run hN hsp
  exact ⟨_, hbody cdv A outer s H E n0 hr, h⟩
theorem okDef {x qual : Str} {params : Arguments} {body : List Stmt} {scope : Scope} {f : Addr} {fd : FuncData} {N ps : List Str} {k n : Nat} {md : Md} {df : Df} {kw : List (Nat × List Str × List Nat)} (F : FunD K x qual params body scope [] [] f fd) (hm : mg x = some (.ref f)) (S : C8.scC N ps scope = true) (hn : ps.length = n) (hN : N.length = df.slots)
    (hb : ∀ (kV doc pm : Value) (an : Option Addr) (cdv ct : Value) (us : List Value), us.length = ps.length → bindArgs (PySem.W.fnOf x qual params body scope .none kV doc pm an cdv ct) ⟨us, []⟩ = pure (ps.zip us))
    (hk : ∀ c ∈ kw, ∀ (kV doc pm : Value) (an : Option Addr) (cdv ct : Value) (us ws : List Value), us.length = c.1 → ws.length = c.2.1.length → bindArgs (PySem.W.fnOf x qual params body scope .none kV doc pm an cdv ct) ⟨us, c.2.1.zip ws⟩ = pure (ps.zip (pg c.2.2 us ws)))
    (hbody : ∀ (cdv : Value) (A : Around) (outer : List PySem.Env) (s : Shared) (H : Hp) (E : XK) (n0 : Nat), Room k (A.deeper (envOfC qual scope s.heap.objs.size f cdv)) → PSs (Xof P w K mg base N qual scope f cdv A outer s H E) body (tSs K (WOf E) n0 md df.body)) :
    FnAt P w K mg base (k + 1) x n md df.run kw := by
  refine ⟨⟨f, fd, ps, hm, F.kp, F.bindsN hb, ?_, okFn F S hn hN hbody⟩⟩
  intro c hc
  obtain ⟨oc, od, dV, kV, doc, pm, an, cdv, ct, osl, rfl, lk, hcd, hD, hK⟩ := F.ex
  rcases hD with ⟨_, rfl⟩ | ⟨e, _⟩
  · exact kbn_of (hk c hc kV doc pm an cdv ct)
  · exact absurd rfl e
theorem FnAt.mono {j k n : Nat} {x : Str} {md : Md} {F : Fn} {kw : List (Nat × List Str × List Nat)} (h : FnAt P w K mg base j x n md F kw) (hk : j ≤ k) : FnAt P w K mg base k x n md F kw := by
  obtain ⟨f, fd, ps, h1, h2, h3, h4, h5⟩ := h.at_
  exact ⟨⟨f, fd, ps, h1, h2, h3, h4, h5.mono hk⟩⟩
end
end Wp

set_option Elab.async false
set_option linter.all false
set_option maxRecDepth 100000
set_option autoImplicit true
/-! W3b: small helpers of the printed proofs. -/
namespace Wp
open PySem PySem.Spec PyProof.Rows L2
section
variable {X : Cx} {W : WX} {n0 : Nat} {new : Md} {e a b c o i : Expr} {es : List Expr} {A B C : E} {As Bs : List E} {pos : Pos}
theorem takes_W0 : Takes X W0 := fun u s' ⟨_, _, _, _, _, _, _, _, _, _, _, _, _, _, _, _, w⟩ => w.elim
theorem tE_n2v {K : Frag} {σ : L2.St} {H : Hp} {Q : VK} (h : tE K W .v A σ H Q) : tE K W .n A σ H Q := by
  obtain ⟨F, m, μ, ρ, S, R, h⟩ := h
  refine ⟨F, m, μ, ρ, S, R, ?_⟩
  cases q : ev A ρ μ with
  | no => rw [q] at h; exact h
  | exc c d μ' => rw [q] at h; exact h
  | ok a μ' =>
    rw [q] at h
    intro F' H' s S' v r
    cases a with
    | c n => exact (show False from r).elim
    | t n => exact (show False from r).elim
    | v d =>
      obtain ⟨F2, s2, S2, r2⟩ := S'.freezeN (show RepN K F' m μ' H' v d from r)
      exact h F2 H' (s.trans s2) S2 v r2
theorem okS_setByN {i : Nat} {st : Stmt} (h : PS X st (tAsg (tE X.K W .n A) (gName i))) : PS X st (tS X.K W n0 new (.set (.n i) A)) :=
  okS_setBy (PS.imp h fun D σ H q => tE_n2v q)
theorem prim_iadd {K : Frag} : PrimN K .v (rr2 (ipI fun i j => i + j)) P.iadd.f := by
  refine prim2 (fun _ => rfl) (fun _ _ _ => rfl) fun F m μ H x y a b res Q S r1 r2 e q => ?_
  cases a <;> cases b <;> try (cases e; done)
  cases r1.int
  cases r2.int
  cases e
  exact ⟨_, _, rfl, rfl, q F H _ (Same.refl F) S (.int _)⟩
theorem prim_isub {K : Frag} : PrimN K .v (rr2 (ipI fun i j => i - j)) P.isub.f := by
  refine prim2 (fun _ => rfl) (fun _ _ _ => rfl) fun F m μ H x y a b res Q S r1 r2 e q => ?_
  cases a <;> cases b <;> try (cases e; done)
  cases r1.int
  cases r2.int
  cases e
  exact ⟨_, _, rfl, rfl, q F H _ (Same.refl F) S (.int _)⟩
theorem okE_int {z : Int} {j : Nat} : PE X (.Constant (.int z) j pos) (tE X.K W .v (.k (.int z))) := okE_k pe_int fun _ => .int _
theorem okE_bl {z : Bool} {j : Nat} : PE X (.Constant (.bool z) j pos) (tE X.K W .v (.k (.bl z))) := okE_k pe_bl fun _ => .bl _
theorem okE_non {j : Nat} : PE X (.Constant .none j pos) (tE X.K W .v (.k .non)) := okE_k pe_non fun _ => .non
theorem okE_str {x : Str} {s : Tx} {j : Nat} (h : x = sx s) : PE X (.Constant (.str x) j pos) (tE X.K W .v (.k (.str s))) := by
  subst h
  exact okE_k pe_str fun _ => .str _
theorem okE_neg (ha : PE X a (tE X.K W .v A)) : PE X (.UnaryOp .USub a pos) (tE X.K W .v (.prim .neg [A])) := okE_un un_neg prim_neg ha
theorem okN_add (ha : PE X a (tE X.K W .v A)) (hb : PE X b (tE X.K W .v B)) : PE X (.BinOp a .Add b pos) (tE X.K W .n (.prim .add [A, B])) := okE_op op_addA prim_add ha hb
theorem okE_sub (ha : PE X a (tE X.K W .v A)) (hb : PE X b (tE X.K W .v B)) : PE X (.BinOp a .Sub b pos) (tE X.K W .v (.prim .sub [A, B])) := okE_op op_sub prim_sub ha hb
theorem okN_mul (ha : PE X a (tE X.K W .v A)) (hb : PE X b (tE X.K W .v B)) : PE X (.BinOp a .Mult b pos) (tE X.K W .n (.prim .mul [A, B])) := okE_op op_mulA prim_mul ha hb
theorem okE_fdiv (ha : PE X a (tE X.K W .v A)) (hb : PE X b (tE X.K W .v B)) : PE X (.BinOp a .FloorDiv b pos) (tE X.K W .v (.prim .fdiv [A, B])) := okE_op op_fdivZ prim_fdiv ha hb
theorem okE_mod (ha : PE X a (tE X.K W .v A)) (hb : PE X b (tE X.K W .v B)) : PE X (.BinOp a .Mod b pos) (tE X.K W .v (.prim .mod [A, B])) := okE_op op_modN prim_mod ha hb
theorem okE_pow (ha : PE X a (tE X.K W .v A)) (hb : PE X b (tE X.K W .v B)) : PE X (.BinOp a .Pow b pos) (tE X.K W .v (.prim .pow [A, B])) := okE_op op_pow prim_pow ha hb
theorem ok_lt (ha : PE X a (tE X.K W .v A)) (hb : PE X b (tE X.K W .v B)) (hm : behindInMarks .Lt b = false) : Ok X W (.Compare a [.Lt] [b] pos) (.prim .lt [A, B]) := ok_cmp op_lt prim_lt (cmp_bl (.inl rfl)) ha hb hm
theorem ok_le (ha : PE X a (tE X.K W .v A)) (hb : PE X b (tE X.K W .v B)) (hm : behindInMarks .LtE b = false) : Ok X W (.Compare a [.LtE] [b] pos) (.prim .le [A, B]) := ok_cmp op_le prim_le (cmp_bl (.inr (.inl rfl))) ha hb hm
theorem ok_gt (ha : PE X a (tE X.K W .v A)) (hb : PE X b (tE X.K W .v B)) (hm : behindInMarks .Gt b = false) : Ok X W (.Compare a [.Gt] [b] pos) (.prim .gt [A, B]) := ok_cmp op_gt prim_gt (cmp_bl (.inr (.inr (.inl rfl)))) ha hb hm
theorem ok_ge (ha : PE X a (tE X.K W .v A)) (hb : PE X b (tE X.K W .v B)) (hm : behindInMarks .GtE b = false) : Ok X W (.Compare a [.GtE] [b] pos) (.prim .ge [A, B]) := ok_cmp op_ge prim_ge (cmp_bl (.inr (.inr (.inr rfl)))) ha hb hm
theorem ok_eq (hu : X.A.units + 64 < cLine) (ha : PE X a (tE X.K W .v A)) (hb : PE X b (tE X.K W .v B)) (hm : behindInMarks .Eq b = false) : Ok X W (.Compare a [.Eq] [b] pos) (.prim .eq [A, B]) := ok_cmp (op_eqA hu) prim_eq eq_bl ha hb hm
theorem ok_ne (hu : X.A.units + 64 < cLine) (ha : PE X a (tE X.K W .v A)) (hb : PE X b (tE X.K W .v B)) (hm : behindInMarks .NotEq b = false) : Ok X W (.Compare a [.NotEq] [b] pos) (.prim .ne [A, B]) := ok_cmp (op_neA hu) prim_ne ne_bl ha hb hm
theorem ok_in (hu : X.A.units + 65 < cLine) (ha : PE X a (tE X.K W .v A)) (hb : PE X b (tE X.K W .v B)) (hm : behindInMarks .In b = false) : Ok X W (.Compare a [.In] [b] pos) (.prim .inn [A, B]) := ok_cmp (op_inA hu) prim_in in_bl ha hb hm
theorem ok_notin (hu : X.A.units + 65 < cLine) (ha : PE X a (tE X.K W .v A)) (hb : PE X b (tE X.K W .v B)) (hm : behindInMarks .NotIn b = false) : Ok X W (.Compare a [.NotIn] [b] pos) (.prim .notin [A, B]) := ok_cmp (op_notInA hu) prim_notin notin_bl ha hb hm
theorem ok_isB (ha : PE X a (tE X.K W .v A)) (hb : PE X b (tE X.K W .v B)) (hm : behindInMarks .Is b = false) : Ok X W (.Compare a [.Is] [b] pos) (.prim .isB [A, B]) := ok_cmp op_isBl prim_isB isB_bl ha hb hm
theorem ok_notB (ha : PE X a (tE X.K W .v A)) (hb : PE X b (tE X.K W .v B)) (hm : behindInMarks .IsNot b = false) : Ok X W (.Compare a [.IsNot] [b] pos) (.prim .notB [A, B]) := ok_cmp op_notBl prim_notB notB_bl ha hb hm
theorem ok_chLL (ha : PE X a (tE X.K W .v A)) (hb : PE X b (tE X.K W .v B)) (hc : PE X c (tE X.K W .v C)) (hm : lastMarks [.Lt, .Lt] [b, c] = false) : Ok X W (.Compare a [.Lt, .Lt] [b, c] pos) (.chain .lt .lt A B C) := ok_chain op_lt op_lt prim_lt prim_lt (cmp_bl (.inl rfl)) (cmp_bl (.inl rfl)) ha hb hc hm
theorem ok_chLE (ha : PE X a (tE X.K W .v A)) (hb : PE X b (tE X.K W .v B)) (hc : PE X c (tE X.K W .v C)) (hm : lastMarks [.Lt, .LtE] [b, c] = false) : Ok X W (.Compare a [.Lt, .LtE] [b, c] pos) (.chain .lt .le A B C) := ok_chain op_lt op_le prim_lt prim_le (cmp_bl (.inl rfl)) (cmp_bl (.inr (.inl rfl))) ha hb hc hm
theorem ok_chEL (ha : PE X a (tE X.K W .v A)) (hb : PE X b (tE X.K W .v B)) (hc : PE X c (tE X.K W .v C)) (hm : lastMarks [.LtE, .Lt] [b, c] = false) : Ok X W (.Compare a [.LtE, .Lt] [b, c] pos) (.chain .le .lt A B C) := ok_chain op_le op_lt prim_le prim_lt (cmp_bl (.inr (.inl rfl))) (cmp_bl (.inl rfl)) ha hb hc hm
theorem ok_chEE (ha : PE X a (tE X.K W .v A)) (hb : PE X b (tE X.K W .v B)) (hc : PE X c (tE X.K W .v C)) (hm : lastMarks [.LtE, .LtE] [b, c] = false) : Ok X W (.Compare a [.LtE, .LtE] [b, c] pos) (.chain .le .le A B C) := ok_chain op_le op_le prim_le prim_le (cmp_bl (.inr (.inl rfl))) (cmp_bl (.inr (.inl rfl))) ha hb hc hm
theorem okG_nameX {i : Nat} {x : Str} (hN : X.N.Nodup) (hi : X.N[i]? = some x) (hx : Loc X.env.scope x) (hf : X.fn x = true ∨ X.env.scope.names.lookup x = some .local) : OkG (· = X) X.K (.Name x pos) (.n i) :=
  okG_name fun Y hY => by cases hY; exact ⟨hN, hi, hx, hf⟩
/-- in a comprehension's block a name of its own -/
theorem okG_nameB {i : Nat} {x : Str} {scope : Scope} (hN : X.N.Nodup) (hi : X.N[i]? = some x) (hx : (relS scope X.env.scope).names.lookup x = some .local) : OkG (Blk X scope) X.K (.Name x pos) (.n i) :=
  okG_name fun Y hY => by
    obtain ⟨s, H, C, cl, fp, rfl⟩ := hY
    exact ⟨hN, hi, .inl hx, .inr hx⟩
theorem room65 {k : Nat} (r : Room k X.A) : X.A.units + 65 < cLine := by have := r.un; omega
theorem room1 {k : Nat} (r : Room k X.A) : X.A.units + 1 < cLine := by have := r.un; omega
theorem prim_int {K : Frag} : PrimN K .v (fun xs H Q => (∃ i, xs = [.int i] ∧ Q (.int i) H) ∨ ∃ k, xs = [.bl k] ∧ Q (.int (if k then 1 else 0)) H) P.int.f := by
  have h : PrimN K .v (rr1 fun x H Q => (∃ i, x = .int i ∧ Q (.int i) H) ∨ ∃ k, x = .bl k ∧ Q (.int (if k then 1 else 0)) H) P.int.f := by
    refine prim1 (fun _ _ => rfl) (fun _ _ _ => rfl) fun F m μ H x a res Q S r1 e q => ?_
    cases a <;> try (cases e; done)
    · cases r1.bl
      cases e
      exact .inr ⟨_, rfl, q F H _ (Same.refl F) S (.int _)⟩
    · cases r1.int
      cases e
      exact .inl ⟨_, rfl, q F H _ (Same.refl F) S (.int _)⟩
  intro F m μ H vs ds res Q S r e q
  obtain ⟨x, rfl, h⟩ := h F m μ H vs ds res Q S r e q
  rcases h with ⟨i, rfl, hq⟩ | ⟨i, rfl, hq⟩
  · exact .inl ⟨i, rfl, hq⟩
  · exact .inr ⟨i, rfl, hq⟩
theorem cr_intA : CallR X (.type "int") (fun xs H Q => (∃ i, xs = [.int i] ∧ Q (.int i) H) ∨ ∃ k, xs = [.bl k] ∧ Q (.int (if k then 1 else 0)) H) := call_int1
/-- of a def that is never called so deep -/
theorem okDef0 {P : Program} {w : World} {K : Frag} {mg : Str → Option Value} {base : Heap} {x qual : Str} {params : Arguments} {body : List Stmt} {scope : Scope} {f : Addr} {fd : FuncData} {ps : List Str} {k n : Nat} {md : Md} (F : FunD K x qual params body scope [] [] f fd) (hm : mg x = some (.ref f)) (hn : ps.length = n)
    (hb : ∀ (kV doc pm : Value) (an : Option Addr) (cdv ct : Value) (us : List Value), us.length = ps.length → bindArgs (PySem.W.fnOf x qual params body scope .none kV doc pm an cdv ct) ⟨us, []⟩ = pure (ps.zip us)) :
    FnAt P w K mg base k x n md (fun _ _ => .no) [] := by
  refine ⟨⟨f, fd, ps, hm, F.kp, F.bindsN hb, fun (c : Nat × List Str × List Nat) hc => (List.not_mem_nil hc).elim, ⟨fun vs H Q E h => h.1.trans hn.symm, fun A outer s H args us vs Q E hr e0 b r h => ?_⟩⟩⟩
  obtain ⟨_, _, _, _, _, _, _, h⟩ := h
  exact (show False from h).elim
def tTy (ts : List Ty) : TA := fun _ H Q => Q (ts.map fun t => V.ty t.tn) H
theorem okTy_nil : PA X [] (tTy []) := PA.imp pa_nil fun _ _ _ h => h
theorem okTy_cons {t : Ty} {ts : List Ty} (ha : PE X e (tC (.ty t.tn))) (hr : PA X es (tTy ts)) (hs : starEach (e :: es) X.env = (false, eval e X.env) :: starEach es X.env) : PA X (e :: es) (tTy (t :: ts)) :=
  PA.imp (pa_cons ha hr hs) fun _ _ _ h => h
end
end Wp

set_option Elab.async false
set_option linter.all false
set_option maxRecDepth 100000
set_option autoImplicit true
/-! W4: the head, with facts of one's own; the end. -/
namespace Wp
open PySem PySem.Spec PyProof.Rows L2
abbrev AlX : Type := Bool × He.AlD
def obsX (ex : Frag → Bool) (n : Nat) (fa : List He.Fa) (fn : List He.DefD) (g : Addr → Option Obj) : AlX := (ex (He.frG g (He.asD g n)), He.obsD fa fn (He.frG g (He.asD g n)))
def hookX (ex : Frag → Bool) (n : Nat) (fa : List He.Fa) (fn : List He.DefD) : PySem.W.Hook where
  α := AlX
  obs := fun s => obsX ex n fa fn s.heap.get?
  val := fun _ => (true, He.valD fn)
  says := fun _ h => ∃ K : Frag, K.In h ∧ ex K = true ∧ He.SaysD fa fn K
  of := fun _ _ e => ⟨_, He.frG_in, congrArg (fun z : AlX => z.1) e, congrArg (fun z : AlX => z.2) e⟩
  keeps := fun _ _ _ ⟨K, hK, c1, c2⟩ k => ⟨K, PySem.W.Frag.In.keeps hK k, c1, c2⟩
theorem obsX_eq {ex : Frag → Bool} {n : Nat} {fa : List He.Fa} {fn : List He.DefD} {g : Addr → Option Obj} {s : Shared} (h : ∀ a, g a = s.heap.get? a) : obsX ex n fa fn g = (hookX ex n fa fn).obs s := by
  have e : g = s.heap.get? := funext h
  rw [e] <;> rfl
/-- a module's name for a built-in function -/
def bltB (K : Frag) (x : Str) (id : String) : Bool := He.eqO (PySem.W.nsIn K mainGlobals x) (some (some (.builtin id)))
theorem bltB_ok {K : Frag} {h : Heap} {mg : Str → Option Value} (X : K.In h) (G : h.Ns mainGlobals mg) {x : Str} {id : String} (c : bltB K x id = true) : mg x = some (.builtin id) := PySem.W.mg_of X G (He.eqO_ok c)
/-- the constants of ints and texts in a tuple -/
theorem rep_ctup {K : Frag} {x : Str} {vs : List He.Dv} {ds : List D} (h : He.tupB K x vs = true) (r : ∀ F, Reps K F (vs.map (He.Dv.v K)) ds) (F : Hp) : Rep K F (.ref (He.ga K x)) (.tup ds) := .tup (He.tupB_ok h F) (r F)
theorem reps_ints {K : Frag} {F : Hp} : ∀ ns : List Int, Reps K F (ns.map V.int) (ns.map D.int)
  | [] => .nil
  | n :: ns => .cons (.int n) (reps_ints ns)
/-- the law's promise from what its text computes -/
theorem law_sp {K : Frag} {F : Fn} {H : Hp} {a : Addr} {ns : List Int} (hS : SqL K H a (ns.map V.int)) (h : ∃ μ, F [.v (.frz (ns.map D.int))] [] = .ok (.bl true) μ) : spOf K 1 .v F [.ref a] H (fun v _ => v = .bl true) fun _ _ _ => False := by
  obtain ⟨μ, h⟩ := h
  refine ⟨rfl, H, [], [], [.v (.frz (ns.map D.int))], ⟨rfl, Same.refl H, fun i a c e => by simp at e, fun i j a c c' e => by simp at e⟩, .cons (Rep.frz hS (reps_ints ns)) .nil, ?_⟩
  rw [h]
  intro F' H' s S' v r
  cases (show Rep K F' v (.bl true) from r)
  rfl
/-- nothing is let out -/
theorem ok_CX0 {P : Program} {w : World} {K : Frag} {mg : Str → Option Value} {base : Heap} {k : Nat} {f : Addr} {fd : FuncData} {ps : List Str} {sp : Sp} (F : FnOk P w K mg base (L2.CX P w) k f fd ps sp) : FnOk P w K mg base C8.CX0 k f fd ps (fun vs H Q _ => sp vs H Q fun _ _ _ => False) := by
  refine ⟨fun vs H Q E h => F.len _ _ _ _ h, fun A outer s H args us vs Q E hr e0 hb hv h => codeAny_mono (F.run A outer s H args us vs Q (fun _ _ _ => False) hr e0 hb hv h) fun r s' q => ?_⟩
  cases r with
  | error e =>
    obtain ⟨_, _, _, _, _, _, _, _, _, _, _, _, z⟩ := (show L2.CX P w outer H s (fun _ _ _ => False) e s' from q)
    exact z.elim
  | ok fl => cases fl <;> exact q
end Wp

set_option Elab.async false
set_option linter.all false
set_option maxRecDepth 100000
set_option autoImplicit true
/-! W5a: methods of texts, str of an integer, int of a text. -/
namespace Wp
open PySem PySem.Spec PyProof.Rows L2
theorem pre_tl (S l : Tx) : Wp.pre S l = TL.pre S l := rfl
theorem spl_tl (S : Tx) : ∀ (l : Tx) (k : Nat) (acc : Tx), Wp.spl S k acc l = TL.spl S k acc l
  | [], k, acc => by cases k <;> rfl
  | c :: r, 0, acc => by
    show (if Wp.pre S (c :: r) = true then acc :: Wp.spl S (S.length - 1) [] r else Wp.spl S 0 (acc ++ [c]) r) = (if TL.pre S (c :: r) = true then acc :: TL.spl S (S.length - 1) [] r else TL.spl S 0 (acc ++ [c]) r)
    rw [spl_tl S r, spl_tl S r]; rfl
  | c :: r, k + 1, acc => spl_tl S r k acc
theorem par_tl (S : Tx) : ∀ (l acc : Tx), Wp.par S acc l = TL.par S acc l
  | [], acc => rfl
  | c :: r, acc => by
    show (if Wp.pre S (c :: r) = true then some (acc, (c :: r).drop S.length) else Wp.par S (acc ++ [c]) r) = (if TL.pre S (c :: r) = true then some (acc, (c :: r).drop S.length) else TL.par S (acc ++ [c]) r)
    rw [par_tl S r]; rfl
theorem joinL_tl (S : Tx) : ∀ l : List Tx, Wp.joinL S l = TL.joinL S l
  | [] => rfl
  | [x] => rfl
  | x :: y :: r => by
    show x ++ S ++ Wp.joinL S (y :: r) = TL.joinL S (x :: y :: r)
    rw [joinL_tl S (y :: r), List.append_assoc]; rfl
theorem strs_reps {K : Frag} {F : Hp} : ∀ l : List Tx, Reps K F ((l.map sx).map V.str) (l.map D.str)
  | [] => .nil
  | x :: l => .cons (.str x) (strs_reps l)
section
variable {X : Cx} {W : WX} {e a b c : Expr} {es : List Expr} {A B C : E} {As Bs : List E} {pos : Pos}
theorem prim_split {K : Frag} : PrimN K .n (fun vs H Q => ∃ x xs, vs = x :: xs ∧ ∃ a b, x = .str a ∧ xs = [.str b] ∧ (b.length == 0) = false ∧ a.length + 2 ≤ sizeLine ∧ rNewStrs (Txt.split a b) H Q) P.split.f := by
  have h : PrimN K .n (rr2 fun x y H Q => ∃ a b, x = .str a ∧ y = .str b ∧ (b.length == 0) = false ∧ a.length + 2 ≤ sizeLine ∧ rNewStrs (Txt.split a b) H Q) P.split.f := by
    refine prim2 (fun _ => rfl) (fun _ _ _ => rfl) fun F m μ H x y a b res Q S r1 r2 e q => ?_
    cases a <;> cases b <;> try (cases e; done)
    rename_i a b
    cases r1.str
    cases r2.str
    have e : (if (!b.isEmpty && low b && decide (a.length + 2 ≤ SL)) = true then some (D.lst ((Wp.spl b 0 [] a).map .str)) else none) = some res := e
    split at e
    · rename_i hk
      simp only [Bool.and_eq_true, Bool.not_eq_true', decide_eq_true_eq] at hk
      cases e
      have hb : b ≠ [] := by rintro rfl; simp at hk
      refine ⟨sx a, sx b, rfl, rfl, ?_, by rw [sx_len, ← sl_eq]; exact hk.2, fun t ht => ?_⟩
      · rw [sx_len]
        cases b with
        | nil => exact absurd rfl hb
        | cons c b => rfl
      · rw [show Txt.split (sx a) (sx b) = (TL.spl b 0 [] a).map sx from SX.split_S hb hk.1.2, ← spl_tl]
        exact q F _ _ (Same.refl F) (S.laid ht) ⟨t, _, rfl, upd_same, strs_reps _, S.sub.free ht, fun i c e1 e2 => S.notCell ht i c e1 e2⟩
    · cases e
  intro F m μ H vs ds res Q S r e q
  obtain ⟨x, y, rfl, a, b, h1, h2, hq⟩ := h F m μ H vs ds res Q S r e q
  exact ⟨x, [y], rfl, a, b, h1, by rw [h2], hq⟩
theorem tE_mono {K : Frag} {md : Md} {E : E} {σ : L2.St} {H : Hp} {Q Q' : VK} (h : tE K W md E σ H Q) (f : ∀ v H', Q v H' → Q' v H') : tE K W md E σ H Q' := by
  obtain ⟨F, m, μ, ρ, S, R, h⟩ := h
  exact ⟨F, m, μ, ρ, S, R, h.imp (fun F1 H1 μ1 x s1 S1 h v1 r1 => f _ _ (h v1 r1)) fun _ _ _ _ _ x => x⟩
/-- a text's method with one argument -/
theorem tE_meth1 {K : Frag} {md : Md} {p : P} {r : V → List V → Hp → VK → Prop} (hp : PrimN K md (fun vs H Q => ∃ x xs, vs = x :: xs ∧ r x xs H Q) p.f) (hq : ∀ d, recv p (some d) = true → ∃ s, d = .str s)
    {σ : L2.St} {H : Hp} {Q : VK} (h : tE K W md (.meth p A [B]) σ H Q) : tM1 r (tE K W .v A) (tE K W .v B) σ H Q := by
  refine tE_mono (tE_meth hp (ty_str hq) h) fun x H1 hx => ⟨?_, tEs_one hx.2⟩
  have h1 := hx.1
  cases x <;> first | exact ⟨_, rfl⟩ | exact h1.elim | (exfalso; simp [tyV] at h1)
theorem recv_str {p : P} (h : p = .split ∨ p = .partition ∨ p = .join ∨ p = .startswith ∨ p = .endswith) : ∀ d, recv p (some d) = true → ∃ s, d = .str s := by
  intro d e
  rcases h with rfl | rfl | rfl | rfl | rfl <;> cases d <;> first | exact ⟨_, rfl⟩ | cases e
variable {o : Expr} {apos : Pos}
theorem okN_split (ho : PE X o (tE X.K W .v A)) (he : PE X e (tE X.K W .v B)) (hs : starEach [e] X.env = [(false, eval e X.env)]) (hbase : attributeBase o "split" X.env (eval o X.env) = eval o X.env) (hline : (apos.endLine == pos.line) = true) :
    PE X (.Call (.Attribute o "split" apos) [e] [] pos) (tE X.K W .n (.meth .split A [B])) :=
  PE.imp (pe_split ho he hs hbase hline) fun _ _ _ h => tE_meth1 prim_split (recv_str (.inl rfl)) h
theorem prim_partition {K : Frag} : PrimN K .v (fun vs H Q => ∃ x xs, vs = x :: xs ∧ ∃ a b, x = .str a ∧ xs = [.str b] ∧ (b.length == 0) = false ∧ a.length ≤ sizeLine ∧
    ∀ p, H p = none → Q (.ref p) (upd H p (.tup [.str (Txt.partition a b).1, .str (Txt.partition a b).2.1, .str (Txt.partition a b).2.2]))) P.partition.f := by
  have h : PrimN K .v (rr2 fun x y H Q => ∃ a b, x = .str a ∧ y = .str b ∧ (b.length == 0) = false ∧ a.length ≤ sizeLine ∧
      ∀ p, H p = none → Q (.ref p) (upd H p (.tup [.str (Txt.partition a b).1, .str (Txt.partition a b).2.1, .str (Txt.partition a b).2.2]))) P.partition.f := by
    refine prim2 (fun _ => rfl) (fun _ _ _ => rfl) fun F m μ H x y a b res Q S r1 r2 e q => ?_
    cases a <;> cases b <;> try (cases e; done)
    rename_i a b
    cases r1.str
    cases r2.str
    have e : (if (!b.isEmpty && low b && decide (a.length ≤ SL)) = true then (match Wp.par b [] a with
      | some (x, y) => some (D.tup [.str x, .str b, .str y])
      | none => some (.tup [.str a, .str [], .str []])) else none) = some res := e
    split at e
    · rename_i hk
      simp only [Bool.and_eq_true, Bool.not_eq_true', decide_eq_true_eq] at hk
      have hb : b ≠ [] := by rintro rfl; simp at hk
      refine ⟨sx a, sx b, rfl, rfl, ?_, by rw [sx_len, ← sl_eq]; exact hk.2, fun t ht => ?_⟩
      · rw [sx_len]
        cases b with
        | nil => exact absurd rfl hb
        | cons c b => rfl
      · cases hp : Wp.par b [] a with
        | none =>
          rw [hp] at e
          cases e
          rw [show Txt.partition (sx a) (sx b) = (sx a, sx [], sx []) from SX.partition_none hb (by rw [← par_tl]; exact hp)]
          obtain ⟨sF, S2⟩ := S.frozen (o := .tup [.str (sx a), .str (sx []), .str (sx [])]) ht
          exact q _ _ _ sF S2 (.tup (.of upd_same) (.cons (.str _) (.cons (.str _) (.cons (.str _) .nil))))
        | some xy =>
          obtain ⟨x, y⟩ := xy
          rw [hp] at e
          cases e
          rw [show Txt.partition (sx a) (sx b) = (sx x, sx b, sx y) from SX.partition_some hb (by rw [← par_tl]; exact hp)]
          obtain ⟨sF, S2⟩ := S.frozen (o := .tup [.str (sx x), .str (sx b), .str (sx y)]) ht
          exact q _ _ _ sF S2 (.tup (.of upd_same) (.cons (.str _) (.cons (.str _) (.cons (.str _) .nil))))
    · cases e
  intro F m μ H vs ds res Q S r e q
  obtain ⟨x, y, rfl, a, b, h1, h2, hq⟩ := h F m μ H vs ds res Q S r e q
  exact ⟨x, [y], rfl, a, b, h1, by rw [h2], hq⟩
theorem okE_partition (ho : PE X o (tE X.K W .v A)) (he : PE X e (tE X.K W .v B)) (hs : starEach [e] X.env = [(false, eval e X.env)]) (hbase : attributeBase o "partition" X.env (eval o X.env) = eval o X.env) (hline : (apos.endLine == pos.line) = true) :
    PE X (.Call (.Attribute o "partition" apos) [e] [] pos) (tE X.K W .v (.meth .partition A [B])) :=
  PE.imp (pe_partition ho he hs hbase hline) fun _ _ _ h => tE_meth1 prim_partition (recv_str (.inr (.inl rfl))) h
theorem prim_join {K : Frag} : PrimN K .v (fun vs H Q => ∃ x xs, vs = x :: xs ∧ ∃ a p, ∃ ys : List Str, x = .str a ∧ xs = [.ref p] ∧ (SqL K H p (ys.map V.str) ∨ SqT K H p (ys.map V.str)) ∧
    (ys.map (·.length)).sum + ys.length * a.length ≤ 16777216 ∧ Q (.str (Txt.join a ys)) H) P.join.f := by
  have h : PrimN K .v (rr2 fun x y H Q => ∃ a p, ∃ ys : List Str, x = .str a ∧ y = .ref p ∧ (SqL K H p (ys.map V.str) ∨ SqT K H p (ys.map V.str)) ∧
      (ys.map (·.length)).sum + ys.length * a.length ≤ 16777216 ∧ Q (.str (Txt.join a ys)) H) P.join.f := by
    refine prim2 (fun _ => rfl) (fun _ _ _ => rfl) fun F m μ H x y a b res Q S r1 r2 e q => ?_
    cases a <;> cases b <;> try (cases e; done)
    rename_i a b
    cases r1.str
    have e : ((strsOf b).bind fun ys => if (ys.map (·.length)).sum + ys.length * a.length ≤ SL then some (D.str (Wp.joinL a ys)) else none) = some res := e
    cases hs : strsOf b with
    | none => rw [hs] at e; cases e
    | some ys =>
      rw [hs] at e
      have e : (if (ys.map (·.length)).sum + ys.length * a.length ≤ SL then some (D.str (Wp.joinL a ys)) else none) = some res := e
      split at e
      · rename_i hk
        cases e
        obtain ⟨p, vs, rfl, h1, h2⟩ := S.seqL r2
        have hv := strsOf_vals h2 hs
        subst hv
        refine ⟨sx a, p, ys.map sx, rfl, rfl, .inl h1, ?_, ?_⟩
        · rw [show (ys.map sx).map (·.length) = ys.map (·.length) from SX.lens ys, List.length_map, sx_len]
          exact hk
        · rw [show Txt.join (sx a) (ys.map sx) = sx (TL.joinL a ys) from SX.join_S a ys, ← joinL_tl]
          exact q F H _ (Same.refl F) S (.str _)
      · cases e
  intro F m μ H vs ds res Q S r e q
  obtain ⟨x, y, rfl, a, b, ys, h1, h2, hq⟩ := h F m μ H vs ds res Q S r e q
  exact ⟨x, [y], rfl, a, b, ys, h1, by rw [h2], hq⟩
theorem okE_join (ho : PE X o (tE X.K W .v A)) (he : PE X e (tE X.K W .v B)) (hs : starEach [e] X.env = [(false, eval e X.env)]) (hbase : attributeBase o "join" X.env (eval o X.env) = eval o X.env) (hline : (apos.endLine == pos.line) = true) :
    PE X (.Call (.Attribute o "join" apos) [e] [] pos) (tE X.K W .v (.meth .join A [B])) :=
  PE.imp (pe_join ho he hs hbase hline) fun _ _ _ h => tE_meth1 prim_join (recv_str (.inr (.inr (.inl rfl)))) h
theorem mk_bool {K : Frag} {F : Hp} {m : List Addr} {μ : Mu} {H : Hp} {Q : VK} {b : Bool} (S : Sim K F m μ H) (q : ∀ F' H' v, Same F F' → Sim K F' m μ H' → RepR K .v F' m μ H' v (.v (.bl b)) → Q v H') : Q (.bl b) H := q F H _ (Same.refl F) S (.bl _)
theorem starts_S (a b : Tx) : Txt.startswith (sx a) (sx b) = Wp.pre b a := by
  unfold Txt.startswith Wp.pre
  rw [PySem.StrLaws.subAt_eq, sx_len, sx_len, List.drop_zero]
  show (decide (0 + b.length ≤ a.length) && (a.take b.length == b)) = (a.take b.length == b)
  cases h : (a.take b.length == b) with
  | false => simp
  | true =>
    have e := eq_of_beq h
    have : b.length ≤ a.length := by
      have := congrArg List.length e
      rw [List.length_take] at this; omega
    simp [this]
theorem ends_S (a b : Tx) : Txt.endswith (sx a) (sx b) = (decide (b.length ≤ a.length) && a.drop (a.length - b.length) == b) := by
  unfold Txt.endswith
  rw [PySem.StrLaws.subAt_eq, sx_len, sx_len]
  show (decide (0 + b.length ≤ a.length) && ((a.drop (a.length - b.length)).take b.length == b)) = _
  rw [Nat.zero_add]
  by_cases h : b.length ≤ a.length
  · rw [List.take_of_length_le (by rw [List.length_drop]; omega)]
  · simp [h]
theorem prim_startswith {K : Frag} : PrimN K .v (fun vs H Q => ∃ x xs, vs = x :: xs ∧ ∃ a b, x = .str a ∧ xs = [.str b] ∧ Q (.bl (Txt.startswith a b)) H) P.startswith.f := by
  have h : PrimN K .v (rr2 fun x y H Q => ∃ a b, x = .str a ∧ y = .str b ∧ Q (.bl (Txt.startswith a b)) H) P.startswith.f := by
    refine prim2 (fun _ => rfl) (fun _ _ _ => rfl) fun F m μ H x y a b res Q S r1 r2 e q => ?_
    cases a <;> cases b <;> try (cases e; done)
    rename_i a b
    cases r1.str
    cases r2.str
    cases e
    exact ⟨sx a, sx b, rfl, rfl, by rw [starts_S]; exact q F H _ (Same.refl F) S (.bl _)⟩
  intro F m μ H vs ds res Q S r e q
  obtain ⟨x, y, rfl, a, b, h1, h2, hq⟩ := h F m μ H vs ds res Q S r e q
  exact ⟨x, [y], rfl, a, b, h1, by rw [h2], hq⟩
theorem prim_endswith {K : Frag} : PrimN K .v (fun vs H Q => ∃ x xs, vs = x :: xs ∧ ∃ a b, x = .str a ∧ xs = [.str b] ∧ Q (.bl (Txt.endswith a b)) H) P.endswith.f := by
  have h : PrimN K .v (rr2 fun x y H Q => ∃ a b, x = .str a ∧ y = .str b ∧ Q (.bl (Txt.endswith a b)) H) P.endswith.f := by
    refine prim2 (fun _ => rfl) (fun _ _ _ => rfl) fun F m μ H x y a b res Q S r1 r2 e q => ?_
    cases a <;> cases b <;> try (cases e; done)
    rename_i a b
    cases r1.str
    cases r2.str
    cases e
    exact ⟨sx a, sx b, rfl, rfl, by rw [ends_S]; exact q F H _ (Same.refl F) S (.bl _)⟩
  intro F m μ H vs ds res Q S r e q
  obtain ⟨x, y, rfl, a, b, h1, h2, hq⟩ := h F m μ H vs ds res Q S r e q
  exact ⟨x, [y], rfl, a, b, h1, by rw [h2], hq⟩
theorem okE_startswith (ho : PE X o (tE X.K W .v A)) (he : PE X e (tE X.K W .v B)) (hs : starEach [e] X.env = [(false, eval e X.env)]) (hbase : attributeBase o "startswith" X.env (eval o X.env) = eval o X.env) (hline : (apos.endLine == pos.line) = true) :
    PE X (.Call (.Attribute o "startswith" apos) [e] [] pos) (tE X.K W .v (.meth .startswith A [B])) :=
  PE.imp (pe_m1 F.slot_str_startswith F.type_str_startswith mt_startswith ho he hs hbase hline) fun _ _ _ h => tE_meth1 prim_startswith (recv_str (.inr (.inr (.inr (.inl rfl))))) h
theorem okE_endswith (ho : PE X o (tE X.K W .v A)) (he : PE X e (tE X.K W .v B)) (hs : starEach [e] X.env = [(false, eval e X.env)]) (hbase : attributeBase o "endswith" X.env (eval o X.env) = eval o X.env) (hline : (apos.endLine == pos.line) = true) :
    PE X (.Call (.Attribute o "endswith" apos) [e] [] pos) (tE X.K W .v (.meth .endswith A [B])) :=
  PE.imp (pe_m1 F.slot_str_endswith F.type_str_endswith mt_endswith ho he hs hbase hline) fun _ _ _ h => tE_meth1 prim_endswith (recv_str (.inr (.inr (.inr (.inr rfl))))) h
/-- str(n) -/
theorem int_text (i : Int) : Str.ofString (toString i) = sx (intTx i) := by
  apply TL.ext_tl
  rw [show TL.tl (sx (intTx i)) = intTx i from rfl]
  cases i with
  | ofNat n =>
    rw [show (Int.ofNat n) = ((n : Nat) : Int) from rfl, TL.tl_num]
    unfold intTx
    rw [if_neg (by omega)]; rfl
  | negSucc n =>
    unfold intTx
    rw [if_pos (by omega)]
    have e : toString (Int.negSucc n) = "-" ++ toString (n + 1) := rfl
    have h := TL.tl_num (n + 1)
    rw [TL.tl_ofString] at h ⊢
    have e2 : toString (((n + 1 : Nat)) : Int) = toString (n + 1) := rfl
    rw [e2] at h
    rw [e, String.toList_append, List.map_append, h]
    rfl
theorem prim_str {K : Frag} : PrimN K .v (fun xs H Q => ∃ i, xs = [.int i] ∧ i.natAbs.log2 < 1920 ∧ Q (.str (toString i)) H) P.str.f := by
  have h : PrimN K .v (rr1 fun x H Q => ∃ i, x = .int i ∧ i.natAbs.log2 < 1920 ∧ Q (.str (toString i)) H) P.str.f := by
    refine prim1 (fun _ _ => rfl) (fun _ _ _ => rfl) fun F m μ H x a res Q S r1 e q => ?_
    cases a <;> try (cases e; done)
    rename_i i
    cases r1.int
    have e : (if i.natAbs.log2 < 1920 then some (D.str (intTx i)) else none) = some res := e
    split at e
    · rename_i h
      cases e
      refine ⟨i, rfl, h, ?_⟩
      show Q (.str (Str.ofString (toString i))) H
      rw [int_text]
      exact q F H _ (Same.refl F) S (.str _)
    · cases e
  intro F m μ H vs ds res Q S r e q
  obtain ⟨x, rfl, i, rfl, h1, h2⟩ := h F m μ H vs ds res Q S r e q
  exact ⟨i, rfl, h1, h2⟩
/-- int(text) -/
theorem prim_intS {K : Frag} : PrimN K .v (fun xs H Q => ∃ a n, xs = [.str a] ∧ PySem.intText? a = some n ∧ a.length ≤ 640 ∧ Q (.int n) H) P.intS.f := by
  have h : PrimN K .v (rr1 fun x H Q => ∃ a n, x = .str a ∧ PySem.intText? a = some n ∧ a.length ≤ 640 ∧ Q (.int n) H) P.intS.f := by
    refine prim1 (fun _ _ => rfl) (fun _ _ _ => rfl) fun F m μ H x a res Q S r1 e q => ?_
    cases a <;> try (cases e; done)
    rename_i s
    cases r1.str
    have e : (if (s.all digit && !s.isEmpty && decide (s.length ≤ 640)) = true then some (D.int (digVal s)) else none) = some res := e
    split at e
    · rename_i hk
      simp only [Bool.and_eq_true, Bool.not_eq_true', decide_eq_true_eq] at hk
      cases e
      have hne : s ≠ [] := by rintro rfl; simp at hk
      exact ⟨sx s, _, rfl, SX.int_S hk.1.1 hne (by omega), by rw [sx_len]; exact hk.2, q F H _ (Same.refl F) S (.int _)⟩
    · cases e
  intro F m μ H vs ds res Q S r e q
  obtain ⟨x, rfl, a, n, rfl, h1, h2, h3⟩ := h F m μ H vs ds res Q S r e q
  exact ⟨a, n, rfl, h1, h2, h3⟩
end
end Wp

set_option Elab.async false
set_option linter.all false
set_option maxRecDepth 100000
set_option autoImplicit true
/-! W5b: own exceptions that hold a value: raised, caught. -/
namespace Wp
open PySem PySem.Spec PyProof.Rows L2
/-- what __init__ of the own base class does -/
def spInit (K : Frag) : Sp := fun vs H Q E => ∃ (a C : Addr) (v : V), vs = [.ref a, v] ∧ OexC K C ∧ PySem.W.findIn K (.ref C) "value" = some none ∧ H a = some (exo a C none) ∧
  ∀ dx, H dx = none → dx ≠ a → Q .non (upd (upd H dx (exd dx [("value", v)])) a (exo a C (some dx)))
def initScope : Scope := { kind := .function, names := [(Str.ofString "self", .local), (Str.ofString "value", .local), (Str.ofString "ValueError", .globalImplicit)], isGenerator := false, isCoroutine := false, more := [] }
/-- the reading of its body -/
def tInit (K : Frag) : TS := tSeq (tDrop (tVeI K (tCons (tVar 0) (tCons (tVar 1) tNil)))) (tSeq (tOst K "value" (tVar 0) (tVar 1)) tNext)
section
variable {P : Program} {w : World} {K : Frag} {mg : Str → Option Value} {base : Heap}
theorem okInit {qual : Str} {params : Arguments} {body : List Stmt} {scope : Scope} {f : Addr} {fd : FuncData} (F : FunD K "__init__" qual params body scope [] [] f fd) (hS : C8.scC ["self", "value"] ["self", "value"] scope = true)
    (hb : ∀ (cdv : Value) (A : Around) (outer : List PySem.Env) (s : Shared) (H : Hp) (E : XK), PSs (cxOf (L2.CX P w) P w K mg base ["self", "value"] qual scope f cdv A outer s H E) body (tInit K)) :
    FnOk P w K mg base (L2.CX P w) 1 f fd ["self", "value"] (spInit K) := by
  refine F.ok (N := ["self", "value"]) (C8.fnScope_by hS) (fun vs H Q E h => by obtain ⟨a, C, v, rfl, _⟩ := h; rfl) fun cdv A outer s H vs Q E hr hsp => ?_
  obtain ⟨a, C, v, rfl, T, hno, ha, hq⟩ := hsp
  refine ⟨_, hb cdv A outer s H E, ?_⟩
  refine ⟨.ref a, rfl, v, rfl, a, C, [v], rfl, by simp, T, ha, ?_⟩
  refine ⟨v, rfl, .ref a, rfl, a, C, rfl, T, hno, .inl ⟨ha, fun dx h1 h2 => hq dx h1 h2⟩⟩
end
/-- what is known of an own exception class that holds a value -/
structure OwnX (P : Program) (w : World) (K : Frag) (mg : Str → Option Value) (base : Heap) (c : String) : Prop where
  hm : mg (Str.ofString c) = some (.ref (He.ga K (Str.ofString c)))
  T : OexC K (He.ga K (Str.ofString c))
  xf : XfC K (He.ga K (Str.ofString c))
  no : PySem.W.findIn K (.ref (He.ga K (Str.ofString c))) "value" = some none
  init : ∃ fI fd, PySem.W.findIn K (.ref (He.ga K (Str.ofString c))) "__init__" = some (some (.ref fI)) ∧ PySem.W.typeIn K (.ref fI) = some (.type "function") ∧ FnOk P w K mg base (L2.CX P w) 1 fI fd ["self", "value"] (spInit K) ∧ Binds K fd ["self", "value"] []
  te : PySem.W.exmOne K (.ref (He.ga K (Str.ofString c))) (.ref (He.ga K (Str.ofString c))) = some true
theorem passes_none {X : Cx} : Passes (L2.CX X.prog X.w) X (fun _ _ _ => False) := fun _ _ _ _ _ s' _ h => by
  obtain ⟨_, _, _, _, _, _, _, _, _, _, _, _, z⟩ := h
  exact z.elim
section
variable {X : Cx} {W : WX} {n0 : Nat} {new : Md} {e : Expr} {A : E} {c : String} {p pos pos2 : Pos}
theorem okS_rai (O : OwnX X.prog X.w X.K X.mg X.base c) (hr : Room 2 X.A) (hc : X.calm = true) (tk : Takes X W) (hg : Gl X (Str.ofString c)) (hdb : ((Str.ofString c) == ("__debug__" : Str)) = false) (ha : PE X e (tE X.K W .v A)) 
    (he : starEach [e] X.env = (false, eval e X.env) :: starEach [] X.env) (hpl : (backTo pos (starEach [] X.env)).any (·.1) = false) :
    PS X (.Raise (some (.Call (.Name (Str.ofString c) p) [e] [] pos)) none pos2) (tS X.K W n0 new (.rai c A)) := by
  obtain ⟨fI, fd, iC, tI, F1, hb⟩ := O.init
  refine PS.imp (ps_raise hc tk (pmk_oex O.T iC tI F1 hr hb .nil passes_none hg O.hm (pa_cons ha pa_nil he) hdb he hpl)) fun D σ H h => ?_
  obtain ⟨F, m, μ, ρ, S, R, h⟩ := h
  rw [ex] at h
  refine ⟨F, m, μ, ρ, S, R, (post_st R h).imp (fun F' H' μ' x s S' q v r => ?_) fun _ _ _ _ _ x => x⟩
  cases x with
  | c n => exact (show False from q).elim
  | t n => exact (show False from q).elim
  | v d =>
    have q : PostS X.K W n0 new F' m D (.exc c d ρ μ') := q
    have r : Rep X.K F' v d := r
    refine ⟨by simp, fun a ha => ⟨a, _, v, rfl, O.T, O.no, upd_same, fun dx h1 h2 => ?_⟩⟩
    have hdx : H' dx = none := by rwa [upd_ne h2] at h1
    refine ⟨rfl, dx, _, upd_same, by rw [upd_ne h2]; exact upd_same, hdx, ?_⟩
    have e1 : upd (L2.del (upd (upd (upd H' a (exo a (He.ga X.K (Str.ofString c)) none)) dx (exd dx [("value", v)])) a (exo a (He.ga X.K (Str.ofString c)) (some dx))) a) dx (.xd [("value", v)]) = upd H' dx (.xd [("value", v)]) := by
      funext b
      by_cases hb : b = dx
      · subst hb; rw [upd_same, upd_same]
      · rw [upd_ne hb, upd_ne hb]
        by_cases hba : b = a
        · subst hba; rw [L2.del_same, ha]
        · rw [L2.del_ne hba, upd_ne hba, upd_ne hb, upd_ne hba]
    rw [e1]
    exact q F' m _ σ _ _ (Same.refl _) rfl (S'.laid hdx) (R.mono s) ⟨dx, v, rfl, rfl, upd_same, r⟩
end
end Wp

set_option Elab.async false
set_option linter.all false
set_option maxRecDepth 100000
set_option autoImplicit true
/-! W5c: a def held by a name called; try; two places of a list exchanged. -/
namespace Wp
open PySem PySem.Spec PyProof.Rows L2
section
variable {X : Cx} {W : WX} {n0 : Nat} {new : Md} {e a b c : Expr} {es : List Expr} {A B C : E} {As Bs : List E} {pos ps : Pos}
theorem okE_callv {x : Str} {i k n : Nat} {tbl : List (String × Fn)} (hT : ∀ y g, tbl.lookup y = some g → X.mg (Str.ofString y) = some (.ref (He.ga X.K (Str.ofString y))) ∧ ∃ kw, FnAt X.prog X.w X.K X.mg X.base k (Str.ofString y) n .v g kw)
    (hr : Room k X.A) (hN : X.N[i]? = some x) (hv : Vis X.env.scope x) (tk : Takes X W) (hn : As.length = n) (ha : PA X (e :: es) (tEs X.K W As)) (hdb : (x == ("__debug__" : Str)) = false) (hcd : (x == ("__classdict__" : Str)) = false)
    (he : starEach (e :: es) X.env = (false, eval e X.env) :: starEach es X.env) (hpl : (backTo pos (starEach es X.env)).any (·.1) = false) :
    PE X (.Call (.Name x ps) (e :: es) [] pos) (tE X.K W .v (.callv tbl (.var i) As)) := by
  refine ⟨fun pins s σ H Q I h => ?_⟩
  obtain ⟨F, m, μ, ρ, S, R, h⟩ := h
  rw [ev, ev] at h
  cases e1 : ρ[i]? with
  | none => rw [e1] at h; exact (show False from h).elim
  | some o =>
    cases o with
    | none => rw [e1] at h; exact (show False from h).elim
    | some a =>
      rw [e1] at h
      cases a with
      | c j => exact (show False from h).elim
      | t j => exact (show False from h).elim
      | v d =>
        cases d with
        | fn y =>
          have h : Post X.K F m _ _ (match tbl.lookup y with
            | some g => (evs As ρ μ).bind fun as μ1 => (g as μ1).bind fun d μ2 => .ok (Wp.A.v d) μ2
            | none => .no) := h
          cases e2 : tbl.lookup y with
          | none => rw [e2] at h; exact (show False from h).elim
          | some g =>
            rw [e2] at h
            obtain ⟨hm, kw, hF⟩ := hT y g e2
            obtain ⟨fa, fd, pn, hm', hk, hb, _, G⟩ := hF.at_
            obtain rfl : fa = He.ga X.K (Str.ofString y) := by
              rw [hm] at hm'
              injection hm' with z
              injection z with z
              exact z.symm
            obtain ⟨v, e3, r⟩ := R.get i _ e1
            have r : Rep X.K F v (.fn y) := r
            cases r
            have h2 : tE X.K W .v (.call y g As) σ H Q := ⟨F, m, μ, ρ, S, R, by rw [ev]; exact h⟩
            have h3 := tE_call hn h2
            refine wpAny_Call_Name_kw (thn ((pe_var (pos := ps) hN hv hdb hcd).run pins s σ H (fun v H1 => v = .ref (He.ga X.K (Str.ofString y)) ∧ H1 = H) I ⟨_, e3, rfl, rfl⟩) fun u s1 ⟨v, H1, I1, r1, q1⟩ => ?_)
            obtain ⟨rfl, rfl⟩ := q1
            cases r1
            refine PySem.W.callWith_K (h₀ := X.base) I.ok.mod.kin hk (thn (ha.run pos pins s1 σ _ _ I1 h3) fun us s2 ⟨vs, H2, I2, r, q⟩ => ⟨I2.kIn, ?_⟩) he hpl
            exact run_fnS G hr hb (passAt tk σ) I2 r q
        | _ => exact (show False from h).elim
/-- try: body / except C as n: x = (False, n.value) -/
theorem okS_tryV {body : List Stmt} {sb : List S} {x nm : Str} {c : String} {i k kk j : Nat} {ph pos2 pt p1 p2 p3 p4 : Pos} (O : OwnX X.prog X.w X.K X.mg X.base c) (hs : X.stack = X.env :: X.outer) (hf : X.env.frame = some X.env.locals) (hN : X.N.Nodup)
    (hi : X.N[i]? = some nm) (hln : X.env.kindOf nm = some .local) (hk : X.N[k]? = some x) (hlk : Loc X.env.scope x) (hfx : X.fn x = true ∨ X.env.scope.names.lookup x = some .local) (hc : Gl X (Str.ofString c)) (hdb : ((Str.ofString c) == ("__debug__" : Str)) = false) (tk : Takes X W)
    (hvi : Vis X.env.scope nm) (hd1 : (nm == ("__debug__" : Str)) = false) (hd2 : (nm == ("__classdict__" : Str)) = false)
    (hb : ∀ (W' : WX) (pn : List (Addr × Obj)) (xe : Value → Shared → Prop), Takes (X.tr pn xe) W' → PassesOwn (model X.prog X.w) X.A X.env xe → PSs (X.tr pn xe) body (tSs X.K W' n0 new sb))
    (hat : ∀ (a : Addr) (oe : Obj) (pn : List (Addr × Obj)), attributeBase (.Name nm p1) "value" (X.suite a ((a, oe) :: pn)).env (eval (.Name nm p1) (X.suite a ((a, oe) :: pn)).env) = eval (.Name nm p1) (X.suite a ((a, oe) :: pn)).env)
    (hsw : swapsWith (.Tuple [.Constant (.bool false) j p3, .Attribute (.Name nm p1) "value" p2] kk p4) (some (.Name x pt)) pos2.line X.env = pure false) :
    PS X (.Try body [.ExceptHandler (some (.Name (Str.ofString c) ph)) (some nm) [.Assign [.Name x pt] (.Tuple [.Constant (.bool false) j p3, .Attribute (.Name nm p1) "value" p2] kk p4) pos2] pos] [] [] ps)
      (tS X.K W n0 new (.tryV sb c i k fun d => .tup [.bl false, d])) := by
  refine PS.imp (ps_try_as (i := i) (Wout := W) hs hf hN hi hln ⟨hc, hdb, .inl O.hm⟩ tk (fun W' pn xe tk' po => hb W' pn xe tk' po)
    (fun a oe cls d pn hz hff => pss_cons (ps_set (X := X.suite a ((a, oe) :: pn)) hN hk hlk (pe_tup (pa_cons pe_bl (pa_cons (pe_xf O.xf O.no hz hff (pe_var (i := i) hi hvi hd1 hd2) (hat a oe pn)) pa_nil))) hsw hfx) pss_nil)) fun D σ H h => ?_
  obtain ⟨F, m, μ, ρ, S, R, h⟩ := h
  rw [ex] at h
  refine ⟨F, m, μ, ρ, S, R, ?_⟩
  cases q : exs n0 sb ρ μ with
  | nx ρ' μ' => rw [q] at h; exact h
  | brk ρ' μ' => rw [q] at h; exact h
  | cnt ρ' μ' => rw [q] at h; exact h
  | ret d μ' => rw [q] at h; exact h
  | no => rw [q] at h; exact h
  | exc c' d ρ' μ' =>
    rw [q] at h
    replace h : PostS X.K W n0 new F m D (if c' = c ∧ i < ρ'.length ∧ k < ρ'.length ∧ i ≠ k then .nx ((ρ'.set k (some (.v (.tup [.bl false, d])))).set i none) μ' else .no) := h
    by_cases hk' : c' = c ∧ i < ρ'.length ∧ k < ρ'.length ∧ i ≠ k
    · rw [if_pos hk'] at h
      obtain ⟨rfl, l1, l2, l3⟩ := hk'
      intro F' m' H' σ' cls dx s' e' S' R' hx
      obtain ⟨x', v, rfl, rfl, hx1, hx2⟩ := hx
      refine ⟨true, O.te, fun _ a ha => ?_, fun z => nomatch z⟩
      have hli : i < σ'.length := by rw [R'.len]; exact l1
      refine ⟨.ref a, by rw [List.getElem?_set_self hli], rfl, rfl, x', _, v, rfl, hx1, rfl, by show 2 ≤ sizeLine; rw [sizeLine_eq]; omega, fun p hp => ?_⟩
      have hF : F' p = none := S'.sub.free hp
      obtain ⟨sF, S2⟩ := S'.frozen (o := .tup [.bl false, v]) hp
      refine h _ m' _ _ (s'.trans sF) e' S2 ⟨?_, fun j a0 hj => ?_⟩
      · simp only [List.length_set]; exact R'.len
      · by_cases hji : j = i
        · subst hji
          rw [List.getElem?_set_self (by simpa using l1)] at hj
          cases hj
        · rw [List.getElem?_set_ne (Ne.symm hji)] at hj
          by_cases hjk : j = k
          · subst hjk
            rw [List.getElem?_set_self l2] at hj
            cases hj
            refine ⟨.ref p, ?_, .tup (.of upd_same) (.cons (.bl false) (.cons (hx2.mono sF) .nil))⟩
            rw [List.getElem?_set_ne (Ne.symm hji), List.getElem?_set_self (by rw [List.length_set, R'.len]; exact l2)]
          · rw [List.getElem?_set_ne (Ne.symm hjk)] at hj
            obtain ⟨w', e3, r3⟩ := R'.get j a0 hj
            refine ⟨w', ?_, r3.mono sF⟩
            rw [List.getElem?_set_ne (Ne.symm hji), List.getElem?_set_ne (Ne.symm hjk), List.getElem?_set_ne (Ne.symm hji)]
            exact e3
    · rw [if_neg hk'] at h
      exact (show False from h).elim
end
end Wp

set_option Elab.async false
set_option linter.all false
set_option maxRecDepth 100000
set_option autoImplicit true
/-! W5d: two places of a list exchanged; how many unlike integers; a number in a text. -/
namespace Wp
open PySem PySem.Spec PyProof.Rows L2
section
variable {X : Cx} {W : WX} {n0 : Nat} {new : Md} {e a b c : Expr} {es : List Expr} {A B C : E} {As Bs : List E} {pos ps : Pos}
/-- one store of a place -/
theorem set_step {K : Frag} {F3 : Hp} {m : List Addr} {μ3 : Mu} {H3 : Hp} {n : Nat} {v2 v3 v1 : V} {kd vd : D} {c c' : Wp.C} (S3 : Sim K F3 m μ3 H3) (r2 : ∃ a, m[n]? = some a ∧ v2 = .ref a) (e2 : μ3[n]? = some ⟨false, c⟩) (r3 : Rep K F3 v3 kd) (r1 : Rep K F3 v1 vd)
    (e3 : updL c kd vd = some c') : ∃ a vs i j, v2 = .ref a ∧ v3 = .int i ∧ H3 a = some (.lst vs) ∧ L2.ixN vs.length i = some j ∧ Sim K F3 m (μ3.set n ⟨false, c'⟩) (upd H3 a (.lst (vs.set j v1))) := by
  obtain ⟨a, e1, rfl⟩ := r2
  cases c with
  | lst xs =>
    cases kd with
    | int i =>
      have e3 : ((Wp.ixN xs.length i).map fun j => Wp.C.lst (xs.set j vd)) = some c' := e3
      cases e4 : Wp.ixN xs.length i with
      | none => rw [e4] at e3; cases e3
      | some j =>
        rw [e4] at e3
        cases e3
        obtain ⟨vs, h1, h2, h3⟩ := S3.cell n a _ e1 e2
        cases r3
        exact ⟨a, vs, i, j, rfl, rfl, h1, by rw [h2.length]; exact e4, S3.write e1 e2 (by simp) ⟨_, upd_same, h2.set r1 j, h3⟩⟩
    | _ => cases e3
  | _ => cases e3
theorem okS_swapL {o o' k l : Expr} {xo kk ll va vb : E} {kt k2 : Nat} {p1 p2 pt pt2 : Pos} (ho : PE X o (tE X.K W .v xo)) (ho' : PE X o' (tE X.K W .v xo)) (hk : PE X k (tE X.K W .v kk)) (hl : PE X l (tE X.K W .v ll)) (ha : PE X a (tE X.K W .v va)) (hb : PE X b (tE X.K W .v vb)) (hc : X.calm = true)
    (he1 : starEach [a, b] X.env = (false, eval a X.env) :: starEach [b] X.env) (he2 : starEach [b] X.env = (false, eval b X.env) :: starEach [] X.env)
    (hs : swapsWithSole [.Tuple [.Subscript o k p1, .Subscript o' l p2] kt pt] (.Tuple [a, b] k2 pt2) pos.line X.env = pure false) (hw : swappedStores [.Tuple [.Subscript o k p1, .Subscript o' l p2] kt pt] (.Tuple [a, b] k2 pt2) X.env = pure none)
    (h1 : (assignEach [.Tuple [.Subscript o k p1, .Subscript o' l p2] kt pt] X.env).map (·.2) = [assign (.Tuple [.Subscript o k p1, .Subscript o' l p2] kt pt) X.env])
    (g1 : (assignEach (.Subscript o k p1 :: [.Subscript o' l p2]) X.env).map (·.2) = assign (.Subscript o k p1) X.env :: (assignEach [.Subscript o' l p2] X.env).map (·.2))
    (g2 : (assignEach [.Subscript o' l p2] X.env).map (·.2) = assign (.Subscript o' l p2) X.env :: (assignEach [] X.env).map (·.2))
    (hn : (assignEach [.Subscript o k p1, .Subscript o' l p2] X.env).length = 2) (hst : (assignEach [.Subscript o k p1, .Subscript o' l p2] X.env).findIdx? (·.1) = none)
    (a1 : ∀ w, assign (.Subscript o k p1) X.env w = (do
      let ov ← holding [w] (eval o X.env)
      let iv ← holding [w, ov] (eval k X.env)
      standAt p1
      holding [w, ov, iv] (setItem ov iv w)
      release [w, ov, iv] []))
    (a2 : ∀ w, assign (.Subscript o' l p2) X.env w = (do
      let ov ← holding [w] (eval o' X.env)
      let iv ← holding [w, ov] (eval l X.env)
      standAt p2
      holding [w, ov, iv] (setItem ov iv w)
      release [w, ov, iv] [])) :
    PS X (.Assign [.Tuple [.Subscript o k p1, .Subscript o' l p2] kt pt] (.Tuple [a, b] k2 pt2) pos) (tS X.K W n0 new (.swapL xo kk ll va vb)) := by
  refine PS.imp (ps_asg (pe_tup (pa_cons ha (pa_cons hb pa_nil he2) he1)) (pg_tup hc (pgs_cons (pg_sub ho hk set_list a1) (pgs_cons (pg_sub ho' hl set_list a2) pgs_nil g2) g1) hn hst) hs hw h1) fun D σ H h => ?_
  obtain ⟨F, m, μ, ρ, S, R, h⟩ := h
  rw [ex] at h
  refine ⟨F, m, μ, ρ, S, R, (post_st R h).imp (fun F1 H1 μ1 xa s1 S1 q v1 r1 => ?_) fun _ _ _ _ _ x => x⟩
  have R1 := R.mono s1
  refine ⟨F1, m, μ1, ρ, S1, R1, (post_st R1 q).imp (fun F2 H2 μ2 xb s2 S2 q v2 r2 => ?_) fun _ _ _ _ _ x => x⟩
  have R2 := R1.mono s2
  refine ⟨by show 2 ≤ sizeLine; rw [sizeLine_eq]; omega, fun p hp => ?_⟩
  obtain ⟨sF, S2'⟩ := S2.frozen (o := .tup [v1, v2]) hp
  have R2' := R2.mono sF
  refine ⟨p, [v1, v2], rfl, .inl (.of upd_same), rfl, v1, [v2], rfl, ?_⟩
  refine ⟨_, m, μ2, ρ, S2', R2', (post_st R2' (PostS.weak sF rfl q)).imp (fun F3 H3 μ3 xx s3 S3 q v3 r3 => ?_) fun _ _ _ _ _ x => x⟩
  have R3 := R2'.mono s3
  refine ⟨F3, m, μ3, ρ, S3, R3, (post_st R3 q).imp (fun F4 H4 μ4 kx s4 S4 q v4 r4 => ?_) fun _ _ _ _ _ x => x⟩
  have R4 := R3.mono s4
  cases xa with
  | c n => exact (show False from q).elim
  | t n => exact (show False from q).elim
  | v vd =>
    cases xx with
    | v d => exact (show False from q).elim
    | t d => exact (show False from q).elim
    | c n =>
      cases kx with
      | c n => exact (show False from q).elim
      | t n => exact (show False from q).elim
      | v kd =>
        dsimp only at q
        cases e2 : μ4[n]? with
        | none => rw [e2] at q; exact (show False from q).elim
        | some cc =>
          obtain ⟨fz, xc⟩ := cc
          rw [e2] at q
          cases fz with
          | true => exact (show False from q).elim
          | false =>
            dsimp only at q
            cases e3 : updL xc kd vd with
            | none => rw [e3] at q; exact (show False from q).elim
            | some c' =>
              rw [e3] at q
              have r1' : Rep X.K F4 v1 vd := (show Rep X.K F1 v1 vd from r1).mono (((s2.trans sF).trans s3).trans s4)
              obtain ⟨a0, vs, i, j, rfl, rfl, h1', h2', S5⟩ := set_step S4 r3 e2 (show Rep X.K F4 v4 kd from r4) r1' e3
              refine ⟨a0, vs, i, j, rfl, rfl, h1', h2', ?_⟩
              refine ⟨v2, [], rfl, ?_⟩
              refine ⟨F4, m, _, ρ, S5, R4, (post_st R4 q).imp (fun F6 H6 μ6 xy s6 S6 q v6 r6 => ?_) fun _ _ _ _ _ x => x⟩
              have R6 := R4.mono s6
              refine ⟨F6, m, μ6, ρ, S6, R6, (post_st R6 q).imp (fun F7 H7 μ7 ly s7 S7 q v7 r7 => ?_) fun _ _ _ _ _ x => x⟩
              have R7 := R6.mono s7
              cases xb with
              | c n => exact (show False from q).elim
              | t n => exact (show False from q).elim
              | v wd =>
                cases xy with
                | v d => exact (show False from q).elim
                | t d => exact (show False from q).elim
                | c n2 =>
                  cases ly with
                  | c n => exact (show False from q).elim
                  | t n => exact (show False from q).elim
                  | v ld =>
                    dsimp only at q
                    cases e5 : μ7[n2]? with
                    | none => rw [e5] at q; exact (show False from q).elim
                    | some cc2 =>
                      obtain ⟨fz2, xc2⟩ := cc2
                      rw [e5] at q
                      cases fz2 with
                      | true => exact (show False from q).elim
                      | false =>
                        dsimp only at q
                        cases e6 : updL xc2 ld wd with
                        | none => rw [e6] at q; exact (show False from q).elim
                        | some c2' =>
                          rw [e6] at q
                          have r2' : Rep X.K F7 v2 wd := (show Rep X.K F2 v2 wd from r2).mono ((((sF.trans s3).trans s4).trans s6).trans s7)
                          obtain ⟨a1, vs1, i1, j1, rfl, rfl, h3', h4', S8⟩ := set_step S7 r6 e5 (show Rep X.K F7 v7 ld from r7) r2' e6
                          exact ⟨a1, vs1, i1, j1, rfl, rfl, h3', h4', rfl, q F7 m _ σ (Same.refl _) rfl S8 R7⟩
/-- f"{n}" of an integer -/
theorem okE_fstr {p1 p2 : Pos} (he : PE X e (tE X.K W .v A)) : PE X (.JoinedStr [.FormattedValue e (-1) none p1] p2) (tE X.K W .v (.prim .str [A])) := by
  refine PE.imp (pe_joined1 (pe_fmt he)) fun σ H Q h => ?_
  obtain ⟨F, m, μ, ρ, S, R, h⟩ := tEs_one (tE_prim prim_str h)
  refine ⟨F, m, μ, ρ, S, R, h.imp (fun F1 H1 μ1 x s1 S1 q v r => ?_) fun _ _ _ _ _ x => x⟩
  obtain ⟨i, e1, h1, h2⟩ := q v r
  cases e1
  exact .inr ⟨i, rfl, h1, h2⟩
end
end Wp

set_option Elab.async false
set_option linter.all false
set_option maxRecDepth 100000
set_option autoImplicit true
/-! W5e: tables of defs, facts of own exceptions from the head. -/
namespace Wp
open PySem PySem.Spec PyProof.Rows L2
def oexB (K : Frag) (C : Addr) : Bool := (match K.lookup C with
  | some ⟨.type "type", _, .cls cd, sl⟩ => (match cd.mro, sl.toList with
    | .ref C' :: bm, [_, _, _, _, some (.builtin n), _] => C' == C && (n == "ValueError.__new__" && (!cd.hasDel && (cd.hasDict && PySem.HandSPX.refsVE bm)))
    | _, _ => false)
  | _ => false) && (He.eqO (PySem.W.findIn K (.ref C) "__setattr__") (some (some (.builtin "object.__setattr__"))) && (decide (PySem.W.subIn K (.ref C) (.type "BaseException") = some true) && (decide (PySem.W.typeIn K (.ref C) = some (.type "type")) && PySem.W.keepIn K (.ref C))))
theorem oexB_ok {K : Frag} {C : Addr} (h : oexB K C = true) : OexC K C := by
  unfold oexB at h
  simp only [Bool.and_eq_true] at h
  obtain ⟨h0, h1, h2, h3, h4⟩ := h
  refine ⟨?_, He.eqO_ok h1, of_decide_eq_true h2, of_decide_eq_true h3, h4⟩
  split at h0
  · rename_i dd cd sl ho
    split at h0
    · rename_i C' bm k0 k1 k2 k3 n k5 hm hs
      simp only [Bool.and_eq_true, beq_iff_eq, Bool.not_eq_true'] at h0
      obtain ⟨rfl, rfl, hdel, hd, hr⟩ := h0
      obtain ⟨nm, bs, mro, ns, qn, hdc, sn, sub, ab, col, del⟩ := cd
      dsimp only at hm hdel hd hr
      subst hm hdel hd
      have hsl : sl = #[k0, k1, k2, k3, some (.builtin "ValueError.__new__"), k5] := by
        obtain ⟨l⟩ := sl
        simp only at hs
        rw [hs]
      subst hsl
      exact ⟨nm, qn, ns, bs, bm, sn, sub, ab, col, dd, k0, k1, k2, k3, k5, ho, hr⟩
    · cases h0
  · cases h0
/-- all that a class must have, of its own __init__ all but the def -/
def ownB (K : Frag) (c b : Str) : Bool := oexB K (He.ga K c) && (xfB K (He.ga K c) && (He.eqO (PySem.W.findIn K (.ref (He.ga K c)) "value") (some none) && (He.eqO (PySem.W.findIn K (.ref (He.ga K c)) "__init__") (some (some (.ref (He.ma K (He.ga K b) "__init__")))) &&
  (decide (PySem.W.typeIn K (.ref (He.ma K (He.ga K b) "__init__")) = some (.type "function")) && decide (PySem.W.exmOne K (.ref (He.ga K c)) (.ref (He.ga K c)) = some true)))))
def veB (K : Frag) : Bool := match PySem.W.findCls K (.type "ValueError") (.type "type") "__init__" with
  | some (.val v) => decide (v = .builtin "ValueError.__init__")
  | _ => false
theorem veB_ok {K : Frag} (h : veB K = true) : PySem.W.findCls K (.type "ValueError") (.type "type") "__init__" = some (.val (.builtin "ValueError.__init__")) := by
  unfold veB at h
  split at h
  · rename_i v e
    rw [e, of_decide_eq_true h]
  · cases h
section
variable {P : Program} {w : World} {K : Frag} {mg : Str → Option Value} {base : Heap}
theorem own_of {c b : String} {fd : FuncData} (h : ownB K (Str.ofString c) (Str.ofString b) = true) (hm : mg (Str.ofString c) = some (.ref (He.ga K (Str.ofString c))))
    (F : FnOk P w K mg base (L2.CX P w) 1 (He.ma K (He.ga K (Str.ofString b)) "__init__") fd ["self", "value"] (spInit K)) (hb : Binds K fd ["self", "value"] []) : OwnX P w K mg base c := by
  unfold ownB at h
  simp only [Bool.and_eq_true] at h
  obtain ⟨h1, h2, h3, h4, h5, h6⟩ := h
  exact ⟨hm, oexB_ok h1, xfB_ok h2, He.eqO_ok h3, ⟨_, fd, He.eqO_ok h4, of_decide_eq_true h5, F, hb⟩, of_decide_eq_true h6⟩
/-- defs that a name may hold -/
def TblOk (P : Program) (w : World) (K : Frag) (mg : Str → Option Value) (base : Heap) (k n : Nat) (tbl : List (String × Fn)) : Prop := ∀ y g, tbl.lookup y = some g → mg (Str.ofString y) = some (.ref (He.ga K (Str.ofString y))) ∧ ∃ kw, FnAt P w K mg base k (Str.ofString y) n .v g kw
theorem tbl_nil {k n : Nat} : TblOk P w K mg base k n [] := fun y g h => by cases h
theorem tbl_cons {k k' n : Nat} {x : String} {g : Fn} {kw : List (Nat × List Str × List Nat)} {tbl : List (String × Fn)} (hm : mg (Str.ofString x) = some (.ref (He.ga K (Str.ofString x)))) (h : FnAt P w K mg base k' (Str.ofString x) n .v g kw) (hk : k' ≤ k) (r : TblOk P w K mg base k n tbl) :
    TblOk P w K mg base k n ((x, g) :: tbl) := fun y g' e => by
  rw [List.lookup_cons] at e
  split at e
  · rename_i hy
    obtain rfl := eq_of_beq hy
    cases e
    exact ⟨hm, kw, h.mono hk⟩
  · exact r y g' e
end
theorem rep_str {K : Frag} {x : Str} {s : Tx} (h : x = sx s) (F : Hp) : Rep K F (.str x) (.str s) := by subst h; exact .str s
theorem rep_int {K : Frag} {i : Int} (F : Hp) : Rep K F (.int i) (.int i) := .int i
theorem rep_fn {K : Frag} (x : String) (F : Hp) : Rep K F (.ref (He.ga K (Str.ofString x))) (.fn x) := .fn x
end Wp

set_option linter.all false
set_option maxRecDepth 100000
namespace Lw
open Wp
def D_is_integer : Df := ⟨1, 0, [(.ret (.and (.prim (.isinst [.int]) [(.var 0)]) (.prim .not [(.prim (.isinst [.bool]) [(.var 0)])])))]⟩
abbrev F_is_integer : Fn := D_is_integer.run
def D_is_pair : Df := ⟨1, 0, [(.ret (.and (.prim (.isinst [.tuple]) [(.var 0)]) (.prim .eq [(.prim .len [(.var 0)]), (.k (.int 2))])))]⟩
abbrev F_is_pair : Fn := D_is_pair.run
def D_lowest : Df := ⟨3, 0, [(.set (.n 2) (.prim .gcd [(.var 0), (.var 1)])),
  (.ife (.prim .lt [(.var 1), (.k (.int 0))]) [(.set (.n 2) (.prim .neg [(.var 2)]))] []),
  (.ret (.tup [(.prim .fdiv [(.var 0), (.var 2)]), (.prim .fdiv [(.var 1), (.var 2)])]))]⟩
abbrev F_lowest : Fn := D_lowest.run
def D_is_number_of : Df := ⟨1, 0, [(.ife (.or (.prim .not [(.call "is_pair" F_is_pair [(.var 0)])]) (.or (.prim .not [(.call "is_integer" F_is_integer [(.prim .idx [(.var 0), (.k (.int 0))])])]) (.prim .not [(.call "is_integer" F_is_integer [(.prim .idx [(.var 0), (.k (.int 1))])])]))) [(.ret (.k (.bl false)))] []),
  (.ret (.and (.prim .gt [(.prim .idx [(.var 0), (.k (.int 1))]), (.k (.int 0))]) (.prim .eq [(.call "lowest" F_lowest [(.prim .idx [(.var 0), (.k (.int 0))]), (.prim .idx [(.var 0), (.k (.int 1))])]), (.var 0)])))]⟩
abbrev F_is_number_of : Fn := D_is_number_of.run
def D_sum_of_two : Df := ⟨2, 0, [(.ret (.call "lowest" F_lowest [(.prim .add [(.prim .mul [(.prim .idx [(.var 0), (.k (.int 0))]), (.prim .idx [(.var 1), (.k (.int 1))])]), (.prim .mul [(.prim .idx [(.var 1), (.k (.int 0))]), (.prim .idx [(.var 0), (.k (.int 1))])])]), (.prim .mul [(.prim .idx [(.var 0), (.k (.int 1))]), (.prim .idx [(.var 1), (.k (.int 1))])])]))]⟩
abbrev F_sum_of_two : Fn := D_sum_of_two.run
def D_sum_of_all : Df := ⟨3, 0, [(.set (.n 1) (.g "ZERO" (.tup [(.int 0), (.int 1)]))),
  (.for (.n 2) (.of (.var 0)) [(.set (.n 1) (.call "sum_of_two" F_sum_of_two [(.var 1), (.var 2)]))]),
  (.ret (.var 1))]⟩
abbrev F_sum_of_all : Fn := D_sum_of_all.run
def D_is_number : Df := ⟨1, 0, [(.ret (.call "is_number_of" F_is_number_of [(.var 0)]))]⟩
abbrev F_is_number : Fn := D_is_number.run
def D_is_shares_of : Df := ⟨2, 0, [(.ife (.or (.prim .not [(.prim (.isinst [.tuple]) [(.var 0)])]) (.or (.prim .eq [(.prim .len [(.var 0)]), (.k (.int 0))]) (.prim .not [(.prim .all [(.lc (.of (.var 0)) (.n 1) [] (.call "is_number_of" F_is_number_of [(.var 1)]) [1])])]))) [(.ret (.k (.bl false)))] []),
  (.ret (.and (.prim .all [(.lc (.of (.var 0)) (.n 1) [] (.prim .gt [(.prim .idx [(.var 1), (.k (.int 0))]), (.k (.int 0))]) [1])]) (.prim .eq [(.call "sum_of_all" F_sum_of_all [(.var 0)]), (.g "ONE" (.tup [(.int 1), (.int 1)]))])))]⟩
abbrev F_is_shares_of : Fn := D_is_shares_of.run
def D_is_shares : Df := ⟨1, 0, [(.ret (.call "is_shares_of" F_is_shares_of [(.var 0)]))]⟩
abbrev F_is_shares : Fn := D_is_shares.run
def D_joined : Df := ⟨2, 0, [(.ret (.meth .join (.k (.str [])) [(.lc (.of (.var 0)) (.n 1) [] (.prim .str [(.var 1)]) [1])]))]⟩
abbrev F_joined : Fn := D_joined.run
def D_show_number : Df := ⟨3, 0, [(.set (.t [(.n 1), (.n 2)]) (.var 0)),
  (.ret (.ife (.prim .eq [(.var 2), (.k (.int 1))]) (.prim .str [(.var 1)]) (.prim .add [(.prim .add [(.prim .str [(.var 1)]), (.k (.str [47]))]), (.prim .str [(.var 2)])])))]⟩
abbrev F_show_number : Fn := D_show_number.run
def D_show_shares : Df := ⟨2, 0, [(.ret (.meth .join (.k (.str [32])) [(.lc (.of (.var 0)) (.n 1) [] (.call "show_number" F_show_number [(.var 1)]) [1])]))]⟩
abbrev F_show_shares : Fn := D_show_shares.run
def D_show_figures : Df := ⟨3, 0, [(.set (.t [(.n 1), (.n 2)]) (.var 0)),
  (.ret (.prim .add [(.prim .add [(.prim .add [(.call "joined" F_joined [(.var 1)]), (.k (.str [40]))]), (.call "joined" F_joined [(.var 2)])]), (.k (.str [41]))]))]⟩
abbrev F_show_figures : Fn := D_show_figures.run
def D_show_tosses : Df := ⟨1, 0, [(.ret (.ife (.prim .gt [(.prim .len [(.var 0)]), (.k (.int 0))]) (.call "joined" F_joined [(.var 0)]) (.g "NONE" (.str [45]))))]⟩
abbrev F_show_tosses : Fn := D_show_tosses.run
def D_integer_of : Df := ⟨2, 0, [(.ife (.or (.prim .not [(.chain .lt .le (.k (.int 0)) (.prim .len [(.var 0)]) (.g "MOST_DIGITS" (.int 30)))]) (.prim .not [(.prim .all [(.lc (.of (.var 0)) (.n 1) [] (.prim .inn [(.var 1), (.g "DIGITS" (.str [48, 49, 50, 51, 52, 53, 54, 55, 56, 57]))]) [1])])])) [(.ret (.k .non))] []),
  (.ret (.ife (.prim .eq [(.prim .str [(.prim .intS [(.var 0)])]), (.var 0)]) (.prim .intS [(.var 0)]) (.k .non)))]⟩
abbrev F_integer_of : Fn := D_integer_of.run
def D_whole : Df := ⟨2, 0, [(.ret (.ife (.prim .any [(.lc (.of (.var 0)) (.n 1) [] (.prim .isN [(.var 1)]) [1])]) (.k .non) (.prim .tuple [(.var 0)])))]⟩
abbrev F_whole : Fn := D_whole.run
def D_number_of : Df := ⟨5, 0, [(.set (.t [(.n 1), (.n 2), (.n 3)]) (.meth .partition (.var 0) [(.k (.str [47]))])),
  (.set (.n 4) (.call "whole" F_whole [(.lst [(.call "integer_of" F_integer_of [(.var 1)]), (.ife (.prim .eq [(.var 2), (.k (.str [47]))]) (.call "integer_of" F_integer_of [(.var 3)]) (.k (.int 1)))])])),
  (.ret (.ife (.and (.prim .notN [(.var 4)]) (.and (.call "is_number" F_is_number [(.var 4)]) (.prim .eq [(.call "show_number" F_show_number [(.var 4)]), (.var 0)]))) (.var 4) (.k .non)))]⟩
abbrev F_number_of : Fn := D_number_of.run
def D_shares_of : Df := ⟨3, 0, [(.set (.n 1) (.call "whole" F_whole [(.lc (.of (.meth .split (.var 0) [(.k (.str [32]))])) (.n 2) [] (.call "number_of" F_number_of [(.var 2)]) [2])])),
  (.ret (.ife (.and (.prim .notN [(.var 1)]) (.call "is_shares" F_is_shares [(.var 1)])) (.var 1) (.k .non)))]⟩
abbrev F_shares_of : Fn := D_shares_of.run
def D_signs_of : Df := ⟨2, 0, [(.ret (.ife (.prim .all [(.lc (.of (.var 0)) (.n 1) [] (.prim .inn [(.var 1), (.k (.str [48, 49]))]) [1])]) (.prim .tuple [(.lc (.of (.var 0)) (.n 1) [] (.prim .intS [(.var 1)]) [1])]) (.k .non)))]⟩
abbrev F_signs_of : Fn := D_signs_of.run
def D_figures_of : Df := ⟨4, 0, [(.set (.t [(.n 1), (.n 2), (.n 3)]) (.meth .partition (.var 0) [(.k (.str [40]))])),
  (.ife (.or (.prim .eq [(.var 2), (.k (.str []))]) (.or (.prim .not [(.meth .endswith (.var 3) [(.k (.str [41]))])]) (.prim .eq [(.var 3), (.k (.str [41]))]))) [(.ret (.k .non))] []),
  (.ret (.call "whole" F_whole [(.lst [(.call "signs_of" F_signs_of [(.var 1)]), (.call "signs_of" F_signs_of [(.prim .slHi [(.var 3), (.prim .neg [(.k (.int 1))])])])])]))]⟩
abbrev F_figures_of : Fn := D_figures_of.run
def D_tosses_of : Df := ⟨1, 0, [(.ife (.prim .eq [(.var 0), (.g "NONE" (.str [45]))]) [(.ret (.tup []))] []),
  (.ret (.ife (.prim .ne [(.var 0), (.k (.str []))]) (.call "signs_of" F_signs_of [(.var 0)]) (.k .non)))]⟩
abbrev F_tosses_of : Fn := D_tosses_of.run
def D_only : Df := ⟨6, 0, [(.set (.t [(.n 2), (.n 3), (.n 4)]) (.meth .partition (.var 1) [(.k (.str [10]))])),
  (.set (.n 5) (.callv [("number_of", F_number_of), ("shares_of", F_shares_of), ("figures_of", F_figures_of), ("tosses_of", F_tosses_of)] (.var 0) [(.var 2)])),
  (.ife (.prim .isN [(.var 5)]) [(.rai "Unreadable" (.k (.int 1)))] []),
  (.ife (.prim .ne [(.var 3), (.k (.str []))]) [(.rai "Unreadable" (.k (.int 2)))] []),
  (.ret (.var 5))]⟩
abbrev F_only : Fn := D_only.run
def D_read_number : Df := ⟨1, 0, [(.ret (.call "only" F_only [(.g "number_of" (.fn "number_of")), (.var 0)]))]⟩
abbrev F_read_number : Fn := D_read_number.run
def D_read_shares : Df := ⟨1, 0, [(.ret (.call "only" F_only [(.g "shares_of" (.fn "shares_of")), (.var 0)]))]⟩
abbrev F_read_shares : Fn := D_read_shares.run
def D_read_figures : Df := ⟨1, 0, [(.ret (.call "only" F_only [(.g "figures_of" (.fn "figures_of")), (.var 0)]))]⟩
abbrev F_read_figures : Fn := D_read_figures.run
def D_read_tosses : Df := ⟨1, 0, [(.ret (.call "only" F_only [(.g "tosses_of" (.fn "tosses_of")), (.var 0)]))]⟩
abbrev F_read_tosses : Fn := D_read_tosses.run
def D__law_pot : Df := ⟨1, 0, [(.ret (.prim .add [(.lst [(.k (.int 0)), (.k (.int 5801)), (.k (.int 3))]), (.prim .list [(.var 0)])]))]⟩
abbrev F__law_pot : Fn := D__law_pot.run
def D__law_take : Df := ⟨5, 0, [(.ife (.and (.prim .eq [(.prim .idx [(.var 0), (.k (.int 0))]), (.k (.int 0))]) (.prim .lt [(.prim .idx [(.var 0), (.k (.int 2))]), (.prim .len [(.var 0)])])) [(.set (.n 2) (.prim .idx [(.var 0), (.prim .idx [(.var 0), (.k (.int 2))])])),
  (.augL (.var 0) (.k (.int 2)) .iadd (.k (.int 1))),
  (.ife (.prim .ge [(.var 2), (.prim .pow [(.k (.int 10)), (.k (.int 18))])]) [(.updL (.var 0) (.k (.int 0)) (.prim .sub [(.var 2), (.prim .pow [(.k (.int 10)), (.k (.int 18))])]))] [(.set (.n 4) (.prim .mod [(.prim .int [(.var 2)]), (.k (.int 2147483647))])),
  (.set (.n 4) (.prim .mod [(.prim .int [(.prim .add [(.prim .add [(.prim .mul [(.var 4), (.var 4)]), (.prim .mul [(.k (.int 48271)), (.var 4)])]), (.prim .mul [(.k (.int 613)), (.prim .idx [(.var 0), (.k (.int 2))])])])]), (.k (.int 2147483629))])),
  (.updL (.var 0) (.k (.int 1)) (.prim .mod [(.prim .int [(.prim .add [(.prim .idx [(.var 0), (.k (.int 1))]), (.var 4)])]), (.k (.int 2147483629))]))])] []),
  (.ife (.prim .gt [(.prim .idx [(.var 0), (.k (.int 0))]), (.k (.int 0))]) [(.set (.n 3) (.prim .mod [(.prim .int [(.prim .idx [(.var 0), (.k (.int 0))])]), (.var 1)])),
  (.updL (.var 0) (.k (.int 0)) (.prim .fdiv [(.prim .idx [(.var 0), (.k (.int 0))]), (.var 1)])),
  (.ret (.var 3))] []),
  (.updL (.var 0) (.k (.int 1)) (.prim .mod [(.prim .int [(.prim .add [(.prim .add [(.prim .mul [(.prim .idx [(.var 0), (.k (.int 1))]), (.k (.int 69621))]), (.prim .mul [(.k (.int 30323)), (.prim .idx [(.var 0), (.k (.int 2))])])]), (.k (.int 19))])]), (.k (.int 2147483647))])),
  (.updL (.var 0) (.k (.int 1)) (.prim .mod [(.prim .int [(.prim .add [(.prim .mul [(.prim .idx [(.var 0), (.k (.int 1))]), (.prim .idx [(.var 0), (.k (.int 1))])]), (.k (.int 5))])]), (.k (.int 2147483629))])),
  (.ret (.prim .mod [(.prim .int [(.prim .fdiv [(.prim .idx [(.var 0), (.k (.int 1))]), (.k (.int 16))])]), (.var 1)]))]⟩
abbrev F__law_take : Fn := D__law_take.run
def D__law_same (F : Fn) : Df := ⟨3, 0, [(.ife (.prim .isN [(.var 1)]) [(.ret (.prim .isN [(.var 0)]))] []),
  (.ife (.prim (.isinst [.bool, .str]) [(.var 1)]) [(.ret (.and (.prim .eq [(.prim (.isinst [.bool]) [(.var 0)]), (.prim (.isinst [.bool]) [(.var 1)])]) (.and (.prim (.isinst [.bool, .str]) [(.var 0)]) (.prim .eq [(.var 0), (.var 1)]))))] []),
  (.ife (.prim (.isinst [.int]) [(.var 1)]) [(.ret (.and (.prim (.isinst [.int]) [(.var 0)]) (.and (.prim .not [(.prim (.isinst [.bool]) [(.var 0)])]) (.prim .eq [(.var 0), (.var 1)]))))] []),
  (.ife (.or (.prim .ne [(.prim (.isinst [.list]) [(.var 1)]), (.prim (.isinst [.list]) [(.var 0)])]) (.prim .ne [(.prim (.isinst [.tuple]) [(.var 1)]), (.prim (.isinst [.tuple]) [(.var 0)])])) [(.ret (.k (.bl false)))] []),
  (.ret (.and (.prim .eq [(.prim .len [(.var 0)]), (.prim .len [(.var 1)])]) (.prim .all [(.lc (.rng [(.prim .len [(.var 1)])]) (.n 2) [] (.call "_law_same" F [(.prim .idx [(.var 0), (.var 2)]), (.prim .idx [(.var 1), (.var 2)])]) [2])])))]⟩
def G__law_same : Nat → Fn
  | 0 => fun _ _ => .no
  | k + 1 => (D__law_same (G__law_same k)).run
abbrev F__law_same : Fn := G__law_same 40
def D__law_divisor : Df := ⟨5, 0, [(.par [2, 3] [.v (.prim .abs [(.var 0)]), .v (.prim .abs [(.var 1)])]),
  (.for (.n 4) (.rng [(.k (.int 20000))]) [(.ife (.prim .eq [(.var 3), (.k (.int 0))]) [.brk] []),
  (.par [2, 3] [.v (.var 3), .v (.prim .mod [(.prim .int [(.var 2)]), (.var 3)])])]),
  (.ret (.var 2))]⟩
abbrev F__law_divisor : Fn := D__law_divisor.run
def D__law_low : Df := ⟨3, 0, [(.set (.n 2) (.ife (.prim .gt [(.var 1), (.k (.int 0))]) (.call "_law_divisor" F__law_divisor [(.var 0), (.var 1)]) (.prim .sub [(.k (.int 0)), (.call "_law_divisor" F__law_divisor [(.var 0), (.var 1)])]))),
  (.ret (.tup [(.prim .fdiv [(.var 0), (.var 2)]), (.prim .fdiv [(.var 1), (.var 2)])]))]⟩
abbrev F__law_low : Fn := D__law_low.run
def D__law_add : Df := ⟨2, 0, [(.ret (.call "_law_low" F__law_low [(.prim .add [(.prim .mul [(.prim .idx [(.var 0), (.k (.int 0))]), (.prim .idx [(.var 1), (.k (.int 1))])]), (.prim .mul [(.prim .idx [(.var 1), (.k (.int 0))]), (.prim .idx [(.var 0), (.k (.int 1))])])]), (.prim .mul [(.prim .idx [(.var 0), (.k (.int 1))]), (.prim .idx [(.var 1), (.k (.int 1))])])]))]⟩
abbrev F__law_add : Fn := D__law_add.run
def D__law_show : Df := ⟨1, 0, [(.ret (.ife (.prim .eq [(.prim .idx [(.var 0), (.k (.int 1))]), (.k (.int 1))]) (.prim .str [(.prim .idx [(.var 0), (.k (.int 0))])]) (.prim .add [(.prim .add [(.prim .str [(.prim .idx [(.var 0), (.k (.int 0))])]), (.k (.str [47]))]), (.prim .str [(.prim .idx [(.var 0), (.k (.int 1))])])])))]⟩
abbrev F__law_show : Fn := D__law_show.run
def D__law_summed : Df := ⟨3, 0, [(.set (.n 1) (.tup [(.k (.int 0)), (.k (.int 1))])),
  (.for (.n 2) (.of (.var 0)) [(.set (.n 1) (.call "_law_add" F__law_add [(.var 1), (.var 2)]))]),
  (.ret (.var 1))]⟩
abbrev F__law_summed : Fn := D__law_summed.run
def D__law_numbers_text : Df := ⟨2, 0, [(.ret (.meth .join (.k (.str [32])) [(.lc (.of (.var 0)) (.n 1) [] (.call "_law_show" F__law_show [(.var 1)]) [1])]))]⟩
abbrev F__law_numbers_text : Fn := D__law_numbers_text.run
def D__law_natural : Df := ⟨2, 0, [(.ife (.or (.prim .eq [(.var 0), (.k (.str []))]) (.or (.prim .gt [(.prim .len [(.var 0)]), (.k (.int 30))]) (.or (.prim .any [(.lc (.of (.var 0)) (.n 1) [] (.prim .notin [(.var 1), (.k (.str [48, 49, 50, 51, 52, 53, 54, 55, 56, 57]))]) [1])]) (.and (.prim .eq [(.prim .idx [(.var 0), (.k (.int 0))]), (.k (.str [48]))]) (.prim .ne [(.var 0), (.k (.str [48]))]))))) [(.ret (.lst []))] []),
  (.ret (.lst [(.prim .intS [(.var 0)])]))]⟩
abbrev F__law_natural : Fn := D__law_natural.run
def D__law_part_in : Df := ⟨4, 0, [(.set (.n 1) (.meth .split (.var 0) [(.k (.str [47]))])),
  (.set (.n 2) (.lc (.of (.var 1)) (.n 3) [] (.call "_law_natural" F__law_natural [(.var 3)]) [3])),
  (.ife (.or (.prim .inn [(.lst []), (.var 2)]) (.prim .gt [(.prim .len [(.var 1)]), (.k (.int 2))])) [(.ret (.lst []))] []),
  (.ife (.prim .eq [(.prim .len [(.var 1)]), (.k (.int 1))]) [(.ret (.lst [(.tup [(.prim .idx [(.prim .idx [(.var 2), (.k (.int 0))]), (.k (.int 0))]), (.k (.int 1))])]))] []),
  (.ret (.ife (.and (.prim .gt [(.prim .idx [(.prim .idx [(.var 2), (.k (.int 1))]), (.k (.int 0))]), (.k (.int 1))]) (.prim .eq [(.call "_law_divisor" F__law_divisor [(.prim .idx [(.prim .idx [(.var 2), (.k (.int 0))]), (.k (.int 0))]), (.prim .idx [(.prim .idx [(.var 2), (.k (.int 1))]), (.k (.int 0))])]), (.k (.int 1))])) (.lst [(.tup [(.prim .idx [(.prim .idx [(.var 2), (.k (.int 0))]), (.k (.int 0))]), (.prim .idx [(.prim .idx [(.var 2), (.k (.int 1))]), (.k (.int 0))])])]) (.lst [])))]⟩
abbrev F__law_part_in : Fn := D__law_part_in.run
def D__law_all_in : Df := ⟨2, 0, [(.ret (.ife (.prim .inn [(.lst []), (.var 0)]) (.lst []) (.lst [(.prim .tuple [(.lc (.of (.var 0)) (.n 1) [] (.prim .idx [(.var 1), (.k (.int 0))]) [1])])])))]⟩
abbrev F__law_all_in : Fn := D__law_all_in.run
def D__law_bent_lines : Df := ⟨11, 1, [(.for (.n 2) (.rng [(.prim .idx [(.lst [(.k (.int 0)), (.k (.int 1)), (.k (.int 1)), (.k (.int 1)), (.k (.int 2))]), (.call "_law_take" F__law_take [(.var 0), (.k (.int 5))])])]) [(.par [3, 4] [.v (.call "_law_take" F__law_take [(.var 0), (.k (.int 9))]), .v (.call "_law_take" F__law_take [(.var 0), (.prim .add [(.prim .len [(.var 1)]), (.k (.int 1))])])]),
  (.par [5, 6] [.v (.prim .idx [(.k (.str [48, 49, 32, 45, 47, 59, 44, 58, 124, 40, 41, 115, 105, 50, 57, 10, 46, 97, 116])), (.call "_law_take" F__law_take [(.var 0), (.k (.int 19))])]), .n 0 (.meth .split (.var 1) [(.k (.str [10]))])]),
  (.par [7, 8] [.v (.call "_law_take" F__law_take [(.var 0), (.prim .len [(.var 6)])]), .v (.call "_law_take" F__law_take [(.var 0), (.prim .len [(.var 6)])])]),
  (.ife (.prim .lt [(.var 3), (.k (.int 2))]) [(.set (.n 1) (.prim .add [(.prim .add [(.prim .slHi [(.var 1), (.var 4)]), (.var 5)]), (.prim .slLo [(.var 1), (.var 4)])]))] [(.ife (.prim .eq [(.var 3), (.k (.int 2))]) [(.set (.n 1) (.prim .add [(.prim .slHi [(.var 1), (.var 4)]), (.prim .slLo [(.var 1), (.prim .add [(.var 4), (.k (.int 1))])])]))] [(.ife (.prim .eq [(.var 3), (.k (.int 3))]) [(.set (.n 1) (.prim .add [(.prim .add [(.prim .slHi [(.var 1), (.var 4)]), (.var 5)]), (.prim .slLo [(.var 1), (.prim .add [(.var 4), (.k (.int 1))])])]))] [(.ife (.prim .eq [(.var 3), (.k (.int 4))]) [(.set (.n 9) (.meth .split (.var 1) [(.k (.str [32]))])),
  (.set (.n 10) (.call "_law_take" F__law_take [(.var 0), (.prim .len [(.var 9)])])),
  (.set (.n 1) (.ife (.prim .eq [(.call "_law_take" F__law_take [(.var 0), (.k (.int 2))]), (.k (.int 0))]) (.meth .join (.k (.str [32])) [(.prim .add [(.prim .slHi [(.var 9), (.var 10)]), (.prim .slLo [(.var 9), (.prim .add [(.var 10), (.k (.int 1))])])])]) (.meth .join (.k (.str [32])) [(.prim .add [(.prim .add [(.prim .slHi [(.var 9), (.var 10)]), (.prim .slLH [(.var 9), .prim .asI [(.var 10)], (.prim .add [(.var 10), (.k (.int 1))])])]), (.prim .slLo [(.var 9), (.var 10)])])])))] [(.ife (.prim .eq [(.var 3), (.k (.int 5))]) [(.swapL (.var 6) (.var 7) (.var 8) (.prim .idx [(.var 6), (.var 8)]) (.prim .idx [(.var 6), (.var 7)])),
  (.set (.n 1) (.meth .join (.k (.str [10])) [(.var 6)]))] [(.ife (.prim .lt [(.var 3), (.k (.int 8))]) [(.set (.n 1) (.meth .join (.k (.str [10])) [(.prim .add [(.prim .add [(.prim .slHi [(.var 6), (.var 7)]), (.ife (.prim .eq [(.var 3), (.k (.int 7))]) (.prim .mul [(.prim .slLH [(.var 6), .prim .asI [(.var 7)], (.prim .add [(.var 7), (.k (.int 1))])]), (.k (.int 2))]) (.lst []))]), (.prim .slLo [(.var 6), (.prim .add [(.var 7), (.k (.int 1))])])])]))] [(.set (.n 1) (.prim .add [(.var 1), (.prim .idx [(.lst [(.k (.str [10])), (.k (.str [32])), (.k (.str [10, 48])), (.k (.str [10, 45]))]), (.call "_law_take" F__law_take [(.var 0), (.k (.int 4))])])]))])])])])])])]),
  (.ret (.var 1))]⟩
abbrev F__law_bent_lines : Fn := D__law_bent_lines.run
def D__law_shares_in : Df := ⟨4, 0, [(.set (.n 1) (.call "_law_all_in" F__law_all_in [(.lc (.of (.meth .split (.var 0) [(.k (.str [32]))])) (.n 2) [] (.call "_law_part_in" F__law_part_in [(.var 2)]) [2])])),
  (.ife (.or (.prim .eq [(.var 1), (.lst [])]) (.or (.prim .any [(.lc (.of (.prim .idx [(.var 1), (.k (.int 0))])) (.n 3) [] (.prim .eq [(.prim .idx [(.var 3), (.k (.int 0))]), (.k (.int 0))]) [3])]) (.prim .ne [(.call "_law_summed" F__law_summed [(.prim .idx [(.var 1), (.k (.int 0))])]), (.tup [(.k (.int 1)), (.k (.int 1))])]))) [(.ret (.lst []))] []),
  (.ret (.var 1))]⟩
abbrev F__law_shares_in : Fn := D__law_shares_in.run
def D__law_bits : Df := ⟨2, 0, [(.ret (.ife (.prim .any [(.lc (.of (.var 0)) (.n 1) [] (.prim .notin [(.var 1), (.k (.str [48, 49]))]) [1])]) (.lst []) (.lst [(.prim .tuple [(.lc (.of (.var 0)) (.n 1) [] (.prim .intS [(.var 1)]) [1])])])))]⟩
abbrev F__law_bits : Fn := D__law_bits.run
def D__law_figures_in : Df := ⟨5, 0, [(.set (.t [(.n 1), (.n 2), (.n 3)]) (.meth .partition (.var 0) [(.k (.str [40]))])),
  (.set (.n 4) (.lst [(.call "_law_bits" F__law_bits [(.var 1)]), (.call "_law_bits" F__law_bits [(.prim .slHi [(.var 3), (.prim .neg [(.k (.int 1))])])])])),
  (.ret (.ife (.or (.prim .eq [(.var 2), (.k (.str []))]) (.or (.prim .ne [(.prim .slLo [(.var 3), (.prim .neg [(.k (.int 1))])]), (.k (.str [41]))]) (.or (.prim .lt [(.prim .len [(.var 3)]), (.k (.int 2))]) (.prim .inn [(.lst []), (.var 4)])))) (.lst []) (.lst [(.tup [(.prim .idx [(.prim .idx [(.var 4), (.k (.int 0))]), (.k (.int 0))]), (.prim .idx [(.prim .idx [(.var 4), (.k (.int 1))]), (.k (.int 0))])])])))]⟩
abbrev F__law_figures_in : Fn := D__law_figures_in.run
def D__law_tosses_in : Df := ⟨1, 0, [(.ret (.ife (.prim .eq [(.var 0), (.k (.str [45]))]) (.lst [(.tup [])]) (.ife (.prim .eq [(.var 0), (.k (.str []))]) (.lst []) (.call "_law_bits" F__law_bits [(.var 0)]))))]⟩
abbrev F__law_tosses_in : Fn := D__law_tosses_in.run
def D__law_one_line : Df := ⟨4, 0, [(.set (.n 2) (.meth .split (.var 1) [(.k (.str [10]))])),
  (.set (.n 3) (.callv [("_law_part_in", F__law_part_in), ("_law_shares_in", F__law_shares_in), ("_law_figures_in", F__law_figures_in), ("_law_tosses_in", F__law_tosses_in)] (.var 0) [(.prim .idx [(.var 2), (.k (.int 0))])])),
  (.ife (.or (.prim .eq [(.var 3), (.lst [])]) (.prim .gt [(.prim .len [(.var 2)]), (.k (.int 1))])) [(.ret (.tup [(.k (.bl false)), (.ife (.prim .eq [(.var 3), (.lst [])]) (.k (.int 1)) (.k (.int 2)))]))] []),
  (.ret (.tup [(.k (.bl true)), (.prim .idx [(.var 3), (.k (.int 0))])]))]⟩
abbrev F__law_one_line : Fn := D__law_one_line.run
def D__law_big : Df := ⟨4, 0, [(.par [1, 2] [.v (.prim .idx [(.lst [(.k (.int 1)), (.k (.int 1)), (.k (.int 2)), (.k (.int 9)), (.k (.int 30))]), (.call "_law_take" F__law_take [(.var 0), (.k (.int 5))])]), .v (.k (.int 0))]),
  (.for (.n 3) (.rng [(.prim .add [(.k (.int 1)), (.call "_law_take" F__law_take [(.var 0), (.var 1)])])]) [(.set (.n 2) (.prim .add [(.prim .mul [(.k (.int 10)), (.var 2)]), (.call "_law_take" F__law_take [(.var 0), (.k (.int 10))])]))]),
  (.ret (.var 2))]⟩
abbrev F__law_big : Fn := D__law_big.run
def D__law_big_number : Df := ⟨1, 0, [(.ret (.ife (.prim .gt [(.call "_law_take" F__law_take [(.var 0), (.k (.int 3))]), (.k (.int 0))]) (.call "_law_low" F__law_low [(.call "_law_big" F__law_big [(.var 0)]), (.prim .max [(.k (.int 1)), (.call "_law_big" F__law_big [(.var 0)])])]) (.tup [(.call "_law_take" F__law_take [(.var 0), (.k (.int 12))]), (.k (.int 1))])))]⟩
abbrev F__law_big_number : Fn := D__law_big_number.run
def D__law_due : Df := ⟨2, 0, [(.ife (.prim .eq [(.var 0), (.k (.int 0))]) [(.ret (.call "_law_one_line" F__law_one_line [(.g "_law_part_in" (.fn "_law_part_in")), (.var 1)]))] []),
  (.ife (.prim .eq [(.var 0), (.k (.int 1))]) [(.ret (.call "_law_one_line" F__law_one_line [(.g "_law_shares_in" (.fn "_law_shares_in")), (.var 1)]))] []),
  (.ret (.call "_law_one_line" F__law_one_line [(.ife (.prim .eq [(.var 0), (.k (.int 2))]) (.g "_law_figures_in" (.fn "_law_figures_in")) (.g "_law_tosses_in" (.fn "_law_tosses_in"))), (.var 1)]))]⟩
abbrev F__law_due : Fn := D__law_due.run
def D__law_read : Df := ⟨5, 0, [(.set (.n 3) (.k .non)),
  (.tryV [(.ife (.prim .eq [(.var 0), (.k (.int 0))]) [(.set (.n 3) (.tup [(.k (.bl true)), (.ife (.var 2) (.callK "read_number" F_read_number [] ["text"] [0] [(.var 1)]) (.call "read_number" F_read_number [(.var 1)]))]))] [(.ife (.prim .eq [(.var 0), (.k (.int 1))]) [(.set (.n 3) (.tup [(.k (.bl true)), (.ife (.var 2) (.callK "read_shares" F_read_shares [] ["text"] [0] [(.var 1)]) (.call "read_shares" F_read_shares [(.var 1)]))]))] [(.ife (.prim .eq [(.var 0), (.k (.int 2))]) [(.set (.n 3) (.tup [(.k (.bl true)), (.ife (.var 2) (.callK "read_figures" F_read_figures [] ["text"] [0] [(.var 1)]) (.call "read_figures" F_read_figures [(.var 1)]))]))] [(.set (.n 3) (.tup [(.k (.bl true)), (.ife (.var 2) (.callK "read_tosses" F_read_tosses [] ["text"] [0] [(.var 1)]) (.call "read_tosses" F_read_tosses [(.var 1)]))]))])])])] "Unreadable" 4 3 fun d => .tup [.bl false, d]),
  (.ret (.var 3))]⟩
abbrev F__law_read : Fn := D__law_read.run
def D__law_shown : Df := ⟨2, 0, [(.ife (.prim .lt [(.var 0), (.k (.int 2))]) [(.ret (.ife (.prim .eq [(.var 0), (.k (.int 0))]) (.call "show_number" F_show_number [(.var 1)]) (.call "show_shares" F_show_shares [(.var 1)])))] []),
  (.ret (.ife (.prim .eq [(.var 0), (.k (.int 2))]) (.call "show_figures" F_show_figures [(.var 1)]) (.call "show_tosses" F_show_tosses [(.var 1)])))]⟩
abbrev F__law_shown : Fn := D__law_shown.run
def D__law_great_shares : Df := ⟨4, 0, [(.set (.n 1) (.lc (.rng [(.prim .add [(.k (.int 1)), (.call "_law_take" F__law_take [(.var 0), (.prim .idx [(.lst [(.k (.int 6)), (.k (.int 40))]), (.call "_law_take" F__law_take [(.var 0), (.k (.int 2))])])])])]) (.n 2) [] (.prim .add [(.k (.int 1)), (.call "_law_take" F__law_take [(.var 0), (.prim .idx [(.lst [(.k (.int 9)), (.k (.int 1000)), (.prim .pow [(.k (.int 10)), (.k (.int 9))])]), (.call "_law_take" F__law_take [(.var 0), (.k (.int 3))])])])]) [2])),
  (.ret (.prim .tuple [(.lc (.of (.var 1)) (.n 3) [] (.call "_law_low" F__law_low [(.var 3), (.prim .sum [(.var 1)])]) [3])]))]⟩
abbrev F__law_great_shares : Fn := D__law_great_shares.run
def D__law_thing : Df := ⟨5, 0, [(.ife (.prim .eq [(.var 1), (.k (.int 0))]) [(.set (.n 2) (.call "_law_big_number" F__law_big_number [(.var 0)])),
  (.ret (.tup [(.var 2), (.call "_law_show" F__law_show [(.var 2)])]))] []),
  (.ife (.prim .eq [(.var 1), (.k (.int 1))]) [(.set (.n 2) (.call "_law_great_shares" F__law_great_shares [(.var 0)])),
  (.ret (.tup [(.var 2), (.call "_law_numbers_text" F__law_numbers_text [(.var 2)])]))] []),
  (.ife (.prim .eq [(.var 1), (.k (.int 2))]) [(.set (.n 2) (.tup [(.prim .add [(.tup [(.k (.int 0))]), (.prim .tuple [(.lc (.rng [(.call "_law_take" F__law_take [(.var 0), (.k (.int 99))])]) (.n 3) [] (.call "_law_take" F__law_take [(.var 0), (.k (.int 2))]) [3])])]), (.prim .tuple [(.lc (.rng [(.prim .add [(.k (.int 1)), (.call "_law_take" F__law_take [(.var 0), (.k (.int 100))])])]) (.n 3) [] (.call "_law_take" F__law_take [(.var 0), (.k (.int 2))]) [3])])])),
  (.ret (.tup [(.var 2), (.prim .add [(.prim .add [(.prim .add [(.meth .join (.k (.str [])) [(.lc (.of (.prim .idx [(.var 2), (.k (.int 0))])) (.n 4) [] (.prim .str [(.var 4)]) [4])]), (.k (.str [40]))]), (.meth .join (.k (.str [])) [(.lc (.of (.prim .idx [(.var 2), (.k (.int 1))])) (.n 4) [] (.prim .str [(.var 4)]) [4])])]), (.k (.str [41]))])]))] []),
  (.set (.n 2) (.prim .tuple [(.lc (.rng [(.call "_law_take" F__law_take [(.var 0), (.k (.int 301))])]) (.n 3) [] (.call "_law_take" F__law_take [(.var 0), (.k (.int 2))]) [3])])),
  (.ret (.tup [(.var 2), (.ife (.prim .ne [(.var 2), (.tup [])]) (.meth .join (.k (.str [])) [(.lc (.of (.var 2)) (.n 4) [] (.prim .str [(.var 4)]) [4])]) (.k (.str [45])))]))]⟩
abbrev F__law_thing : Fn := D__law_thing.run
def D_law : Df := ⟨9, 1, [(.new 1 0 (.call "_law_pot" F__law_pot [(.var 0)])),
  (.for (.n 2) (.rng [(.k (.int 3))]) [(.for (.n 3) (.rng [(.k (.int 4))]) [(.set (.t [(.n 4), (.n 5)]) (.call "_law_thing" F__law_thing [(.var 1), (.var 3)])),
  (.ife (.prim .not [(.call "_law_same" F__law_same [(.lst [(.call "_law_shown" F__law_shown [(.var 3), (.var 4)]), (.call "_law_read" F__law_read [(.var 3), (.var 5), (.k (.bl true))]), (.call "_law_due" F__law_due [(.var 3), (.var 5)])]), (.lst [(.var 5), (.tup [(.k (.bl true)), (.var 4)]), (.tup [(.k (.bl true)), (.var 4)])])])]) [(.ret (.k (.bl false)))] []),
  (.for (.n 6) (.rng [(.k (.int 4))]) [(.set (.n 7) (.call "_law_bent_lines" F__law_bent_lines [(.var 1), (.var 5)])),
  (.set (.n 8) (.call "_law_due" F__law_due [(.var 3), (.var 7)])),
  (.ife (.prim .not [(.call "_law_same" F__law_same [(.lst [(.call "_law_read" F__law_read [(.var 3), (.var 7), (.k (.bl false))]), (.call "_law_read" F__law_read [(.var 3), (.var 7), (.k (.bl true))])]), (.lst [(.var 8), (.var 8)])])]) [(.ret (.k (.bl false)))] []),
  (.ife (.and (.prim .idx [(.var 8), (.k (.int 0))]) (.and (.or (.prim .ne [(.var 3), (.k (.int 2))]) (.prim .eq [(.prim .slHi [(.prim .idx [(.prim .idx [(.var 8), (.k (.int 1))]), (.k (.int 0))]), (.k (.int 1))]), (.tup [(.k (.int 0))])])) (.prim .not [(.call "_law_same" F__law_same [(.call "_law_shown" F__law_shown [(.var 3), (.prim .idx [(.var 8), (.k (.int 1))])]), (.var 7)])]))) [(.ret (.k (.bl false)))] [])])])]),
  (.ret (.k (.bl true)))]⟩
abbrev F_law : Fn := D_law.run
end Lw

set_option Elab.async false
set_option linter.all false
set_option maxRecDepth 100000
set_option maxHeartbeats 0
namespace Lw
open PySem PySem.Spec PyProof.Rows L2 Wp
def top (i : Nat) : Stmt := PySem.Challenge.pw_wholeplays_k60_whole_texts_of_numbers_sh.main.body.getD i (.Pass ⟨0, 0, 0, 0⟩)
def ini : Stmt := (C8.clsBody (top 2)).getD 0 (.Pass ⟨0, 0, 0, 0⟩)
structure Hd (K : PySem.W.Frag) (mg : Str → Option Value) : Prop where
  f_is_integer : ∃ fd f, mg "is_integer" = some (.ref f) ∧ FunD K "is_integer" "is_integer" (defArgs (top 7)) (defBody (top 7)) (defScope (top 7)) [] [] f fd
  f_is_pair : ∃ fd f, mg "is_pair" = some (.ref f) ∧ FunD K "is_pair" "is_pair" (defArgs (top 8)) (defBody (top 8)) (defScope (top 8)) [] [] f fd
  f_lowest : ∃ fd f, mg "lowest" = some (.ref f) ∧ FunD K "lowest" "lowest" (defArgs (top 9)) (defBody (top 9)) (defScope (top 9)) [] [] f fd
  f_is_number_of : ∃ fd f, mg "is_number_of" = some (.ref f) ∧ FunD K "is_number_of" "is_number_of" (defArgs (top 10)) (defBody (top 10)) (defScope (top 10)) [] [] f fd
  f_sum_of_two : ∃ fd f, mg "sum_of_two" = some (.ref f) ∧ FunD K "sum_of_two" "sum_of_two" (defArgs (top 11)) (defBody (top 11)) (defScope (top 11)) [] [] f fd
  f_sum_of_all : ∃ fd f, mg "sum_of_all" = some (.ref f) ∧ FunD K "sum_of_all" "sum_of_all" (defArgs (top 12)) (defBody (top 12)) (defScope (top 12)) [] [] f fd
  f_is_number : ∃ fd f, mg "is_number" = some (.ref f) ∧ FunD K "is_number" "is_number" (defArgs (top 14)) (defBody (top 14)) (defScope (top 14)) [] [] f fd
  f_is_shares_of : ∃ fd f, mg "is_shares_of" = some (.ref f) ∧ FunD K "is_shares_of" "is_shares_of" (defArgs (top 15)) (defBody (top 15)) (defScope (top 15)) [] [] f fd
  f_is_shares : ∃ fd f, mg "is_shares" = some (.ref f) ∧ FunD K "is_shares" "is_shares" (defArgs (top 16)) (defBody (top 16)) (defScope (top 16)) [] [] f fd
  f_joined : ∃ fd f, mg "joined" = some (.ref f) ∧ FunD K "joined" "joined" (defArgs (top 19)) (defBody (top 19)) (defScope (top 19)) [] [] f fd
  f_show_number : ∃ fd f, mg "show_number" = some (.ref f) ∧ FunD K "show_number" "show_number" (defArgs (top 20)) (defBody (top 20)) (defScope (top 20)) [] [] f fd
  f_show_shares : ∃ fd f, mg "show_shares" = some (.ref f) ∧ FunD K "show_shares" "show_shares" (defArgs (top 21)) (defBody (top 21)) (defScope (top 21)) [] [] f fd
  f_show_figures : ∃ fd f, mg "show_figures" = some (.ref f) ∧ FunD K "show_figures" "show_figures" (defArgs (top 22)) (defBody (top 22)) (defScope (top 22)) [] [] f fd
  f_show_tosses : ∃ fd f, mg "show_tosses" = some (.ref f) ∧ FunD K "show_tosses" "show_tosses" (defArgs (top 23)) (defBody (top 23)) (defScope (top 23)) [] [] f fd
  f_integer_of : ∃ fd f, mg "integer_of" = some (.ref f) ∧ FunD K "integer_of" "integer_of" (defArgs (top 27)) (defBody (top 27)) (defScope (top 27)) [] [] f fd
  f_whole : ∃ fd f, mg "whole" = some (.ref f) ∧ FunD K "whole" "whole" (defArgs (top 28)) (defBody (top 28)) (defScope (top 28)) [] [] f fd
  f_number_of : ∃ fd f, mg "number_of" = some (.ref f) ∧ FunD K "number_of" "number_of" (defArgs (top 29)) (defBody (top 29)) (defScope (top 29)) [] [] f fd
  f_shares_of : ∃ fd f, mg "shares_of" = some (.ref f) ∧ FunD K "shares_of" "shares_of" (defArgs (top 30)) (defBody (top 30)) (defScope (top 30)) [] [] f fd
  f_signs_of : ∃ fd f, mg "signs_of" = some (.ref f) ∧ FunD K "signs_of" "signs_of" (defArgs (top 31)) (defBody (top 31)) (defScope (top 31)) [] [] f fd
  f_figures_of : ∃ fd f, mg "figures_of" = some (.ref f) ∧ FunD K "figures_of" "figures_of" (defArgs (top 32)) (defBody (top 32)) (defScope (top 32)) [] [] f fd
  f_tosses_of : ∃ fd f, mg "tosses_of" = some (.ref f) ∧ FunD K "tosses_of" "tosses_of" (defArgs (top 33)) (defBody (top 33)) (defScope (top 33)) [] [] f fd
  f_only : ∃ fd f, mg "only" = some (.ref f) ∧ FunD K "only" "only" (defArgs (top 34)) (defBody (top 34)) (defScope (top 34)) [] [] f fd
  f_read_number : ∃ fd f, mg "read_number" = some (.ref f) ∧ FunD K "read_number" "read_number" (defArgs (top 35)) (defBody (top 35)) (defScope (top 35)) [] [] f fd
  f_read_shares : ∃ fd f, mg "read_shares" = some (.ref f) ∧ FunD K "read_shares" "read_shares" (defArgs (top 36)) (defBody (top 36)) (defScope (top 36)) [] [] f fd
  f_read_figures : ∃ fd f, mg "read_figures" = some (.ref f) ∧ FunD K "read_figures" "read_figures" (defArgs (top 37)) (defBody (top 37)) (defScope (top 37)) [] [] f fd
  f_read_tosses : ∃ fd f, mg "read_tosses" = some (.ref f) ∧ FunD K "read_tosses" "read_tosses" (defArgs (top 38)) (defBody (top 38)) (defScope (top 38)) [] [] f fd
  f__law_pot : ∃ fd f, mg "_law_pot" = some (.ref f) ∧ FunD K "_law_pot" "_law_pot" (defArgs (top 40)) (defBody (top 40)) (defScope (top 40)) [] [] f fd
  f__law_take : ∃ fd f, mg "_law_take" = some (.ref f) ∧ FunD K "_law_take" "_law_take" (defArgs (top 41)) (defBody (top 41)) (defScope (top 41)) [] [] f fd
  f__law_same : ∃ fd f, mg "_law_same" = some (.ref f) ∧ FunD K "_law_same" "_law_same" (defArgs (top 42)) (defBody (top 42)) (defScope (top 42)) [] [] f fd
  f__law_divisor : ∃ fd f, mg "_law_divisor" = some (.ref f) ∧ FunD K "_law_divisor" "_law_divisor" (defArgs (top 43)) (defBody (top 43)) (defScope (top 43)) [] [] f fd
  f__law_low : ∃ fd f, mg "_law_low" = some (.ref f) ∧ FunD K "_law_low" "_law_low" (defArgs (top 44)) (defBody (top 44)) (defScope (top 44)) [] [] f fd
  f__law_add : ∃ fd f, mg "_law_add" = some (.ref f) ∧ FunD K "_law_add" "_law_add" (defArgs (top 45)) (defBody (top 45)) (defScope (top 45)) [] [] f fd
  f__law_show : ∃ fd f, mg "_law_show" = some (.ref f) ∧ FunD K "_law_show" "_law_show" (defArgs (top 46)) (defBody (top 46)) (defScope (top 46)) [] [] f fd
  f__law_summed : ∃ fd f, mg "_law_summed" = some (.ref f) ∧ FunD K "_law_summed" "_law_summed" (defArgs (top 47)) (defBody (top 47)) (defScope (top 47)) [] [] f fd
  f__law_numbers_text : ∃ fd f, mg "_law_numbers_text" = some (.ref f) ∧ FunD K "_law_numbers_text" "_law_numbers_text" (defArgs (top 48)) (defBody (top 48)) (defScope (top 48)) [] [] f fd
  f__law_natural : ∃ fd f, mg "_law_natural" = some (.ref f) ∧ FunD K "_law_natural" "_law_natural" (defArgs (top 49)) (defBody (top 49)) (defScope (top 49)) [] [] f fd
  f__law_part_in : ∃ fd f, mg "_law_part_in" = some (.ref f) ∧ FunD K "_law_part_in" "_law_part_in" (defArgs (top 50)) (defBody (top 50)) (defScope (top 50)) [] [] f fd
  f__law_all_in : ∃ fd f, mg "_law_all_in" = some (.ref f) ∧ FunD K "_law_all_in" "_law_all_in" (defArgs (top 51)) (defBody (top 51)) (defScope (top 51)) [] [] f fd
  f__law_bent_lines : ∃ fd f, mg "_law_bent_lines" = some (.ref f) ∧ FunD K "_law_bent_lines" "_law_bent_lines" (defArgs (top 52)) (defBody (top 52)) (defScope (top 52)) [] [] f fd
  f__law_shares_in : ∃ fd f, mg "_law_shares_in" = some (.ref f) ∧ FunD K "_law_shares_in" "_law_shares_in" (defArgs (top 56)) (defBody (top 56)) (defScope (top 56)) [] [] f fd
  f__law_bits : ∃ fd f, mg "_law_bits" = some (.ref f) ∧ FunD K "_law_bits" "_law_bits" (defArgs (top 57)) (defBody (top 57)) (defScope (top 57)) [] [] f fd
  f__law_figures_in : ∃ fd f, mg "_law_figures_in" = some (.ref f) ∧ FunD K "_law_figures_in" "_law_figures_in" (defArgs (top 58)) (defBody (top 58)) (defScope (top 58)) [] [] f fd
  f__law_tosses_in : ∃ fd f, mg "_law_tosses_in" = some (.ref f) ∧ FunD K "_law_tosses_in" "_law_tosses_in" (defArgs (top 59)) (defBody (top 59)) (defScope (top 59)) [] [] f fd
  f__law_one_line : ∃ fd f, mg "_law_one_line" = some (.ref f) ∧ FunD K "_law_one_line" "_law_one_line" (defArgs (top 53)) (defBody (top 53)) (defScope (top 53)) [] [] f fd
  f__law_big : ∃ fd f, mg "_law_big" = some (.ref f) ∧ FunD K "_law_big" "_law_big" (defArgs (top 54)) (defBody (top 54)) (defScope (top 54)) [] [] f fd
  f__law_big_number : ∃ fd f, mg "_law_big_number" = some (.ref f) ∧ FunD K "_law_big_number" "_law_big_number" (defArgs (top 55)) (defBody (top 55)) (defScope (top 55)) [] [] f fd
  f__law_due : ∃ fd f, mg "_law_due" = some (.ref f) ∧ FunD K "_law_due" "_law_due" (defArgs (top 60)) (defBody (top 60)) (defScope (top 60)) [] [] f fd
  f__law_read : ∃ fd f, mg "_law_read" = some (.ref f) ∧ FunD K "_law_read" "_law_read" (defArgs (top 61)) (defBody (top 61)) (defScope (top 61)) [] [] f fd
  f__law_shown : ∃ fd f, mg "_law_shown" = some (.ref f) ∧ FunD K "_law_shown" "_law_shown" (defArgs (top 62)) (defBody (top 62)) (defScope (top 62)) [] [] f fd
  f__law_great_shares : ∃ fd f, mg "_law_great_shares" = some (.ref f) ∧ FunD K "_law_great_shares" "_law_great_shares" (defArgs (top 63)) (defBody (top 63)) (defScope (top 63)) [] [] f fd
  f__law_thing : ∃ fd f, mg "_law_thing" = some (.ref f) ∧ FunD K "_law_thing" "_law_thing" (defArgs (top 64)) (defBody (top 64)) (defScope (top 64)) [] [] f fd
  f_law : ∃ fd f, mg "law" = some (.ref f) ∧ FunD K "law" "law" (defArgs (top 65)) (defBody (top 65)) (defScope (top 65)) [] [] f fd
  b_abs : mg "abs" = none
  b_all : mg "all" = none
  b_any : mg "any" = none
  b_bool : mg "bool" = none
  b_gcd : mg "gcd" = some (.builtin "math.gcd")
  b_int : mg "int" = none
  b_isinstance : mg "isinstance" = none
  b_len : mg "len" = none
  b_list : mg "list" = none
  b_max : mg "max" = none
  b_range : mg "range" = none
  b_str : mg "str" = none
  b_sum : mg "sum" = none
  b_tuple : mg "tuple" = none
  g_DIGITS : ∃ u, mg "DIGITS" = some u ∧ RelV (V.str "0123456789") u
  r_DIGITS : ∀ F, Rep K F (V.str "0123456789") (.str [48, 49, 50, 51, 52, 53, 54, 55, 56, 57])
  g_MOST_DIGITS : ∃ u, mg "MOST_DIGITS" = some u ∧ RelV (V.int 30) u
  r_MOST_DIGITS : ∀ F, Rep K F (V.int 30) (.int 30)
  g_NONE : ∃ u, mg "NONE" = some u ∧ RelV (V.str "-") u
  r_NONE : ∀ F, Rep K F (V.str "-") (.str [45])
  g_ONE : ∃ u, mg "ONE" = some u ∧ RelV (V.ref (He.ga K "ONE")) u
  r_ONE : ∀ F, Rep K F (V.ref (He.ga K "ONE")) (.tup [(.int 1), (.int 1)])
  g_ZERO : ∃ u, mg "ZERO" = some u ∧ RelV (V.ref (He.ga K "ZERO")) u
  r_ZERO : ∀ F, Rep K F (V.ref (He.ga K "ZERO")) (.tup [(.int 0), (.int 1)])
  v__law_figures_in : mg "_law_figures_in" = some (.ref (He.ga K "_law_figures_in"))
  v__law_part_in : mg "_law_part_in" = some (.ref (He.ga K "_law_part_in"))
  v__law_shares_in : mg "_law_shares_in" = some (.ref (He.ga K "_law_shares_in"))
  v__law_tosses_in : mg "_law_tosses_in" = some (.ref (He.ga K "_law_tosses_in"))
  v_figures_of : mg "figures_of" = some (.ref (He.ga K "figures_of"))
  v_number_of : mg "number_of" = some (.ref (He.ga K "number_of"))
  v_shares_of : mg "shares_of" = some (.ref (He.ga K "shares_of"))
  v_tosses_of : mg "tosses_of" = some (.ref (He.ga K "tosses_of"))
  x_Unreadable : mg "Unreadable" = some (.ref (He.ga K "Unreadable"))
  xb_Unreadable : ownB K "Unreadable" "TossError" = true
  x_init : ∃ fd, FunD K "__init__" "TossError.__init__" (defArgs ini) (defBody ini) (defScope ini) [] [] (He.ma K (He.ga K "TossError") "__init__") fd
  x_ve : mg "ValueError" = none
  x_vv : veB K = true
section
variable {P : Program} {w : World} {K : PySem.W.Frag} {mg : Str → Option Value} {base : Heap}
theorem ox_Unreadable (Z : Hd K mg) : OwnX P w K mg base "Unreadable" := by
  obtain ⟨fd, F⟩ := Z.x_init
  refine own_of Z.xb_Unreadable Z.x_Unreadable (okInit F (by decide +kernel) fun cdv A outer s H E => pss_cons (ps_expr (pe_veinit rfl Z.x_ve (veB_ok Z.x_vv) (pa_cons (pe_var (i := 0) rfl (.inl rfl)) (pa_cons (pe_var (i := 1) rfl (.inl rfl)) pa_nil)))) (pss_cons (ps_ost (pe_var (i := 0) rfl (.inl rfl)) (pe_var (i := 1) rfl (.inl rfl))) pss_nil)) (F.bindsN ?_)
  intro kV doc pm an cdv ct us hl
  match us, hl with
  | [u0, u1], _ => rfl
theorem h_is_integer (Z : Hd K mg) : FnAt P w K mg base 1 "is_integer" 1 .v F_is_integer [] := by
  have b_bool := Z.b_bool
  have b_int := Z.b_int
  have b_isinstance := Z.b_isinstance
  obtain ⟨fd, f, hm, F⟩ := Z.f_is_integer
  refine okDef (df := D_is_integer) (N := ["value"]) (ps := ["value"]) F hm (by decide +kernel) rfl rfl ?_ ?_ ?_
  · intro kV doc pm an cdv ct us hl
    match us, hl with
    | [u0], _ => rfl
  · exact fun c hc => (List.not_mem_nil hc).elim
  · intro cdv A outer s H E n0 hr
    have hN : (["value"] : List Str).Nodup := by decide +kernel
    exact (okS_cons (okS_ret (Ok.ve (OkW.ok (ok_and (Ok.plain (okE_isi (n := "") (t := .int) (p2 := ⟨0, 0, 0, 0⟩) rfl b_isinstance (okE_var rfl (by first | exact .inl rfl | exact .inr (.inl rfl) | exact .inr (.inr rfl)) rfl rfl) (pe_bltn rfl b_int boot_int rfl) rfl rfl rfl) (fun _ => rfl)) (ok_and1 (ok_not (Ok.plain (okE_isi (n := "") (t := .bool) (p2 := ⟨0, 0, 0, 0⟩) rfl b_isinstance (okE_var rfl (by first | exact .inl rfl | exact .inr (.inl rfl) | exact .inr (.inr rfl)) rfl rfl) (pe_bltn rfl b_bool boot_bool rfl) rfl rfl rfl) (fun _ => rfl)))))))) okS_nil)
theorem h_is_pair (Z : Hd K mg) : FnAt P w K mg base 1 "is_pair" 1 .v F_is_pair [] := by
  have b_isinstance := Z.b_isinstance
  have b_len := Z.b_len
  have b_tuple := Z.b_tuple
  obtain ⟨fd, f, hm, F⟩ := Z.f_is_pair
  refine okDef (df := D_is_pair) (N := ["value"]) (ps := ["value"]) F hm (by decide +kernel) rfl rfl ?_ ?_ ?_
  · intro kV doc pm an cdv ct us hl
    match us, hl with
    | [u0], _ => rfl
  · exact fun c hc => (List.not_mem_nil hc).elim
  · intro cdv A outer s H E n0 hr
    have hN : (["value"] : List Str).Nodup := by decide +kernel
    exact (okS_cons (okS_ret (Ok.ve (OkW.ok (ok_and (Ok.plain (okE_isi (n := "") (t := .tuple) (p2 := ⟨0, 0, 0, 0⟩) rfl b_isinstance (okE_var rfl (by first | exact .inl rfl | exact .inr (.inl rfl) | exact .inr (.inr rfl)) rfl rfl) (pe_bltn rfl b_tuple boot_tuple rfl) rfl rfl rfl) (fun _ => rfl)) (ok_and1 (ok_eq hr.units (okE_callB (id := "len") call_len prim_len rfl b_len (by decide +kernel) (okEs_cons (okE_var rfl (by first | exact .inl rfl | exact .inr (.inl rfl) | exact .inr (.inr rfl)) rfl rfl) okEs_nil rfl) (by decide) rfl rfl rfl) okE_int rfl)))))) okS_nil)
theorem h_lowest (Z : Hd K mg) : FnAt P w K mg base 1 "lowest" 2 .v F_lowest [] := by
  have b_gcd := Z.b_gcd
  obtain ⟨fd, f, hm, F⟩ := Z.f_lowest
  refine okDef (df := D_lowest) (N := ["top", "bottom", "common"]) (ps := ["top", "bottom"]) F hm (by decide +kernel) rfl rfl ?_ ?_ ?_
  · intro kV doc pm an cdv ct us hl
    match us, hl with
    | [u0, u1], _ => rfl
  · exact fun c hc => (List.not_mem_nil hc).elim
  · intro cdv A outer s H E n0 hr
    have hN : (["top", "bottom", "common"] : List Str).Nodup := by decide +kernel
    exact (okS_cons (okS_set (okE_callF (id := "math.gcd") cr_gcd prim_gcd rfl b_gcd (okEs_cons (okE_var rfl (by first | exact .inl rfl | exact .inr (.inl rfl) | exact .inr (.inr rfl)) rfl rfl) (okEs_cons (okE_var rfl (by first | exact .inl rfl | exact .inr (.inl rfl) | exact .inr (.inr rfl)) rfl rfl) okEs_nil rfl) rfl) rfl rfl rfl) (okG_nameX hN rfl (by first | exact .inl rfl | exact .inr rfl) (.inl rfl)) rfl rfl rfl) (okS_cons (okS_if (Ok.te (ok_lt (okE_var rfl (by first | exact .inl rfl | exact .inr (.inl rfl) | exact .inr (.inr rfl)) rfl rfl) okE_int rfl)) (okS_cons (okS_set (okE_neg (okE_var rfl (by first | exact .inl rfl | exact .inr (.inl rfl) | exact .inr (.inr rfl)) rfl rfl)) (okG_nameX hN rfl (by first | exact .inl rfl | exact .inr rfl) (.inl rfl)) rfl rfl rfl) okS_nil) okS_nil) (okS_cons (okS_ret (okE_tup (okEs_cons (okE_fdiv (okE_var rfl (by first | exact .inl rfl | exact .inr (.inl rfl) | exact .inr (.inr rfl)) rfl rfl) (okE_var rfl (by first | exact .inl rfl | exact .inr (.inl rfl) | exact .inr (.inr rfl)) rfl rfl)) (okEs_cons (okE_fdiv (okE_var rfl (by first | exact .inl rfl | exact .inr (.inl rfl) | exact .inr (.inr rfl)) rfl rfl) (okE_var rfl (by first | exact .inl rfl | exact .inr (.inl rfl) | exact .inr (.inr rfl)) rfl rfl)) okEs_nil rfl) rfl) (by decide))) okS_nil)))
theorem h_is_number_of (Z : Hd K mg) : FnAt P w K mg base 2 "is_number_of" 1 .v F_is_number_of [] := by
  have h_is_integer := h_is_integer (P := P) (w := w) (base := base) Z
  have h_is_pair := h_is_pair (P := P) (w := w) (base := base) Z
  have h_lowest := h_lowest (P := P) (w := w) (base := base) Z
  obtain ⟨fd, f, hm, F⟩ := Z.f_is_number_of
  refine okDef (df := D_is_number_of) (N := ["told"]) (ps := ["told"]) F hm (by decide +kernel) rfl rfl ?_ ?_ ?_
  · intro kV doc pm an cdv ct us hl
    match us, hl with
    | [u0], _ => rfl
  · exact fun c hc => (List.not_mem_nil hc).elim
  · intro cdv A outer s H E n0 hr
    have hN : (["told"] : List Str).Nodup := by decide +kernel
    exact (okS_cons (okS_if (Ok.te (OkW.ok (ok_or (ok_not (Ok.plain (okE_call h_is_pair (hr.mono (by decide)) rfl takes_X rfl (okEs_cons (okE_var rfl (by first | exact .inl rfl | exact .inr (.inl rfl) | exact .inr (.inr rfl)) rfl rfl) okEs_nil rfl) rfl rfl rfl) (fun _ => rfl))) (ok_or (ok_not (Ok.plain (okE_call h_is_integer (hr.mono (by decide)) rfl takes_X rfl (okEs_cons (okE_idx (okE_var rfl (by first | exact .inl rfl | exact .inr (.inl rfl) | exact .inr (.inr rfl)) rfl rfl) okE_int (fun _ _ => rfl)) okEs_nil rfl) rfl rfl rfl) (fun _ => rfl))) (ok_or1 (ok_not (Ok.plain (okE_call h_is_integer (hr.mono (by decide)) rfl takes_X rfl (okEs_cons (okE_idx (okE_var rfl (by first | exact .inl rfl | exact .inr (.inl rfl) | exact .inr (.inr rfl)) rfl rfl) okE_int (fun _ _ => rfl)) okEs_nil rfl) rfl rfl rfl) (fun _ => rfl)))))))) (okS_cons (okS_ret okE_bl) okS_nil) okS_nil) (okS_cons (okS_ret (Ok.ve (OkW.ok (ok_and (ok_gt (okE_idx (okE_var rfl (by first | exact .inl rfl | exact .inr (.inl rfl) | exact .inr (.inr rfl)) rfl rfl) okE_int (fun _ _ => rfl)) okE_int rfl) (ok_and1 (ok_eq hr.units (okE_call h_lowest (hr.mono (by decide)) rfl takes_X rfl (okEs_cons (okE_idx (okE_var rfl (by first | exact .inl rfl | exact .inr (.inl rfl) | exact .inr (.inr rfl)) rfl rfl) okE_int (fun _ _ => rfl)) (okEs_cons (okE_idx (okE_var rfl (by first | exact .inl rfl | exact .inr (.inl rfl) | exact .inr (.inr rfl)) rfl rfl) okE_int (fun _ _ => rfl)) okEs_nil rfl) rfl) rfl rfl rfl) (okE_var rfl (by first | exact .inl rfl | exact .inr (.inl rfl) | exact .inr (.inr rfl)) rfl rfl) rfl)))))) okS_nil))
theorem h_sum_of_two (Z : Hd K mg) : FnAt P w K mg base 2 "sum_of_two" 2 .v F_sum_of_two [] := by
  have h_lowest := h_lowest (P := P) (w := w) (base := base) Z
  obtain ⟨fd, f, hm, F⟩ := Z.f_sum_of_two
  refine okDef (df := D_sum_of_two) (N := ["a", "b"]) (ps := ["a", "b"]) F hm (by decide +kernel) rfl rfl ?_ ?_ ?_
  · intro kV doc pm an cdv ct us hl
    match us, hl with
    | [u0, u1], _ => rfl
  · exact fun c hc => (List.not_mem_nil hc).elim
  · intro cdv A outer s H E n0 hr
    have hN : (["a", "b"] : List Str).Nodup := by decide +kernel
    exact (okS_cons (okS_ret (okE_call h_lowest (hr.mono (by decide)) rfl takes_X rfl (okEs_cons (n2e (okN_add (n2e (okN_mul (okE_idx (okE_var rfl (by first | exact .inl rfl | exact .inr (.inl rfl) | exact .inr (.inr rfl)) rfl rfl) okE_int (fun _ _ => rfl)) (okE_idx (okE_var rfl (by first | exact .inl rfl | exact .inr (.inl rfl) | exact .inr (.inr rfl)) rfl rfl) okE_int (fun _ _ => rfl)))) (n2e (okN_mul (okE_idx (okE_var rfl (by first | exact .inl rfl | exact .inr (.inl rfl) | exact .inr (.inr rfl)) rfl rfl) okE_int (fun _ _ => rfl)) (okE_idx (okE_var rfl (by first | exact .inl rfl | exact .inr (.inl rfl) | exact .inr (.inr rfl)) rfl rfl) okE_int (fun _ _ => rfl)))))) (okEs_cons (n2e (okN_mul (okE_idx (okE_var rfl (by first | exact .inl rfl | exact .inr (.inl rfl) | exact .inr (.inr rfl)) rfl rfl) okE_int (fun _ _ => rfl)) (okE_idx (okE_var rfl (by first | exact .inl rfl | exact .inr (.inl rfl) | exact .inr (.inr rfl)) rfl rfl) okE_int (fun _ _ => rfl)))) okEs_nil rfl) rfl) rfl rfl rfl)) okS_nil)
theorem h_sum_of_all (Z : Hd K mg) : FnAt P w K mg base 3 "sum_of_all" 1 .v F_sum_of_all [] := by
  have g_ZERO := Z.g_ZERO
  have r_ZERO := Z.r_ZERO
  have h_sum_of_two := h_sum_of_two (P := P) (w := w) (base := base) Z
  obtain ⟨fd, f, hm, F⟩ := Z.f_sum_of_all
  refine okDef (df := D_sum_of_all) (N := ["numbers", "total", "a"]) (ps := ["numbers"]) F hm (by decide +kernel) rfl rfl ?_ ?_ ?_
  · intro kV doc pm an cdv ct us hl
    match us, hl with
    | [u0], _ => rfl
  · exact fun c hc => (List.not_mem_nil hc).elim
  · intro cdv A outer s H E n0 hr
    have hN : (["numbers", "total", "a"] : List Str).Nodup := by decide +kernel
    exact (okS_cons (okS_set (okE_g (C8.pe_gc rfl g_ZERO rfl) r_ZERO) (okG_nameX hN rfl (by first | exact .inl rfl | exact .inr rfl) (.inl rfl)) rfl rfl rfl) (okS_cons (okS_for passes_X rfl (okI_of (okE_var rfl (by first | exact .inl rfl | exact .inr (.inl rfl) | exact .inr (.inr rfl)) rfl rfl)) (okG_nameX hN rfl (by first | exact .inl rfl | exact .inr rfl) (.inl rfl)) (okS_cons (okS_set (okE_call h_sum_of_two (hr.mono (by decide)) rfl takes_X rfl (okEs_cons (okE_var rfl (by first | exact .inl rfl | exact .inr (.inl rfl) | exact .inr (.inr rfl)) rfl rfl) (okEs_cons (okE_var rfl (by first | exact .inl rfl | exact .inr (.inl rfl) | exact .inr (.inr rfl)) rfl rfl) okEs_nil rfl) rfl) rfl rfl rfl) (okG_nameX hN rfl (by first | exact .inl rfl | exact .inr rfl) (.inl rfl)) rfl rfl rfl) okS_nil) (fun _ => rfl)) (okS_cons (okS_ret (okE_var rfl (by first | exact .inl rfl | exact .inr (.inl rfl) | exact .inr (.inr rfl)) rfl rfl)) okS_nil)))
theorem h_is_number (Z : Hd K mg) : FnAt P w K mg base 3 "is_number" 1 .v F_is_number [] := by
  have h_is_number_of := h_is_number_of (P := P) (w := w) (base := base) Z
  obtain ⟨fd, f, hm, F⟩ := Z.f_is_number
  refine okDef (df := D_is_number) (N := ["told"]) (ps := ["told"]) F hm (by decide +kernel) rfl rfl ?_ ?_ ?_
  · intro kV doc pm an cdv ct us hl
    match us, hl with
    | [u0], _ => rfl
  · exact fun c hc => (List.not_mem_nil hc).elim
  · intro cdv A outer s H E n0 hr
    have hN : (["told"] : List Str).Nodup := by decide +kernel
    exact (okS_cons (okS_ret (okE_call h_is_number_of (hr.mono (by decide)) rfl takes_X rfl (okEs_cons (okE_var rfl (by first | exact .inl rfl | exact .inr (.inl rfl) | exact .inr (.inr rfl)) rfl rfl) okEs_nil rfl) rfl rfl rfl)) okS_nil)
theorem h_is_shares_of (Z : Hd K mg) : FnAt P w K mg base 4 "is_shares_of" 1 .v F_is_shares_of [] := by
  have b_all := Z.b_all
  have b_isinstance := Z.b_isinstance
  have b_len := Z.b_len
  have b_tuple := Z.b_tuple
  have g_ONE := Z.g_ONE
  have r_ONE := Z.r_ONE
  have h_is_number_of := h_is_number_of (P := P) (w := w) (base := base) Z
  have h_sum_of_all := h_sum_of_all (P := P) (w := w) (base := base) Z
  obtain ⟨fd, f, hm, F⟩ := Z.f_is_shares_of
  refine okDef (df := D_is_shares_of) (N := ["told", "share"]) (ps := ["told"]) F hm (by decide +kernel) rfl rfl ?_ ?_ ?_
  · intro kV doc pm an cdv ct us hl
    match us, hl with
    | [u0], _ => rfl
  · exact fun c hc => (List.not_mem_nil hc).elim
  · intro cdv A outer s H E n0 hr
    have hN : (["told", "share"] : List Str).Nodup := by decide +kernel
    exact (okS_cons (okS_if (Ok.te (OkW.ok (ok_or (ok_not (Ok.plain (okE_isi (n := "") (t := .tuple) (p2 := ⟨0, 0, 0, 0⟩) rfl b_isinstance (okE_var rfl (by first | exact .inl rfl | exact .inr (.inl rfl) | exact .inr (.inr rfl)) rfl rfl) (pe_bltn rfl b_tuple boot_tuple rfl) rfl rfl rfl) (fun _ => rfl))) (ok_or (ok_eq hr.units (okE_callB (id := "len") call_len prim_len rfl b_len (by decide +kernel) (okEs_cons (okE_var rfl (by first | exact .inl rfl | exact .inr (.inl rfl) | exact .inr (.inr rfl)) rfl rfl) okEs_nil rfl) (by decide) rfl rfl rfl) okE_int rfl) (ok_or1 (ok_not (Ok.plain (okE_callB (id := "all") (cr_all rfl) prim_all rfl b_all (by decide +kernel) (okEs_cons (n2e (okN_lc (own := [("share", 1)]) rfl hN (okI_of (okE_var rfl (by first | exact .inl rfl | exact .inr (.inl rfl) | exact .inr (.inr rfl)) rfl rfl)) (blkOk_by (show blkC ["told", "share"] (defScope (top 15)) _ _ = true by decide +kernel)) (okG_nameB hN rfl rfl) (by decide) (fun Y hY => by obtain ⟨s, H, C, cl, fp, rfl⟩ := hY; exact okTs_nil) (fun Y hY => by obtain ⟨s, H, C, cl, fp, rfl⟩ := hY; exact (okE_call h_is_number_of (hr.mono (by decide)) rfl takes_W0 rfl (okEs_cons (okE_var rfl (by first | exact .inl rfl | exact .inr (.inl rfl) | exact .inr (.inr rfl)) rfl rfl) okEs_nil rfl) rfl rfl rfl)) (fun _ => rfl))) okEs_nil rfl) (by decide) rfl rfl rfl) (fun _ => rfl)))))))) (okS_cons (okS_ret okE_bl) okS_nil) okS_nil) (okS_cons (okS_ret (Ok.ve (OkW.ok (ok_and (Ok.plain (okE_callB (id := "all") (cr_all rfl) prim_all rfl b_all (by decide +kernel) (okEs_cons (n2e (okN_lc (own := [("share", 1)]) rfl hN (okI_of (okE_var rfl (by first | exact .inl rfl | exact .inr (.inl rfl) | exact .inr (.inr rfl)) rfl rfl)) (blkOk_by (show blkC ["told", "share"] (defScope (top 15)) _ _ = true by decide +kernel)) (okG_nameB hN rfl rfl) (by decide) (fun Y hY => by obtain ⟨s, H, C, cl, fp, rfl⟩ := hY; exact okTs_nil) (fun Y hY => by obtain ⟨s, H, C, cl, fp, rfl⟩ := hY; exact (Ok.ve (ok_gt (okE_idx (okE_var rfl (by first | exact .inl rfl | exact .inr (.inl rfl) | exact .inr (.inr rfl)) rfl rfl) okE_int (fun _ _ => rfl)) okE_int rfl))) (fun _ => rfl))) okEs_nil rfl) (by decide) rfl rfl rfl) (fun _ => rfl)) (ok_and1 (ok_eq hr.units (okE_call h_sum_of_all (hr.mono (by decide)) rfl takes_X rfl (okEs_cons (okE_var rfl (by first | exact .inl rfl | exact .inr (.inl rfl) | exact .inr (.inr rfl)) rfl rfl) okEs_nil rfl) rfl rfl rfl) (okE_g (C8.pe_gc rfl g_ONE rfl) r_ONE) rfl)))))) okS_nil))
theorem h_is_shares (Z : Hd K mg) : FnAt P w K mg base 5 "is_shares" 1 .v F_is_shares [] := by
  have h_is_shares_of := h_is_shares_of (P := P) (w := w) (base := base) Z
  obtain ⟨fd, f, hm, F⟩ := Z.f_is_shares
  refine okDef (df := D_is_shares) (N := ["told"]) (ps := ["told"]) F hm (by decide +kernel) rfl rfl ?_ ?_ ?_
  · intro kV doc pm an cdv ct us hl
    match us, hl with
    | [u0], _ => rfl
  · exact fun c hc => (List.not_mem_nil hc).elim
  · intro cdv A outer s H E n0 hr
    have hN : (["told"] : List Str).Nodup := by decide +kernel
    exact (okS_cons (okS_ret (okE_call h_is_shares_of (hr.mono (by decide)) rfl takes_X rfl (okEs_cons (okE_var rfl (by first | exact .inl rfl | exact .inr (.inl rfl) | exact .inr (.inr rfl)) rfl rfl) okEs_nil rfl) rfl rfl rfl)) okS_nil)
theorem h_joined (Z : Hd K mg) : FnAt P w K mg base 1 "joined" 1 .v F_joined [] := by
  have b_str := Z.b_str
  obtain ⟨fd, f, hm, F⟩ := Z.f_joined
  refine okDef (df := D_joined) (N := ["signs", "sign"]) (ps := ["signs"]) F hm (by decide +kernel) rfl rfl ?_ ?_ ?_
  · intro kV doc pm an cdv ct us hl
    match us, hl with
    | [u0], _ => rfl
  · exact fun c hc => (List.not_mem_nil hc).elim
  · intro cdv A outer s H E n0 hr
    have hN : (["signs", "sign"] : List Str).Nodup := by decide +kernel
    exact (okS_cons (okS_ret (okE_join (okE_str (by decide +kernel)) (n2e (okN_lc (own := [("sign", 1)]) rfl hN (okI_of (okE_var rfl (by first | exact .inl rfl | exact .inr (.inl rfl) | exact .inr (.inr rfl)) rfl rfl)) (blkOk_by (show blkC ["signs", "sign"] (defScope (top 19)) _ _ = true by decide +kernel)) (okG_nameB hN rfl rfl) (by decide) (fun Y hY => by obtain ⟨s, H, C, cl, fp, rfl⟩ := hY; exact okTs_nil) (fun Y hY => by obtain ⟨s, H, C, cl, fp, rfl⟩ := hY; exact (okE_callTy (T := "str") call_str_int prim_str rfl b_str (by decide +kernel) (okEs_cons (okE_var rfl (by first | exact .inl rfl | exact .inr (.inl rfl) | exact .inr (.inr rfl)) rfl rfl) okEs_nil rfl) (by decide) rfl rfl rfl)) (fun _ => rfl))) rfl rfl rfl)) okS_nil)
theorem h_show_number (Z : Hd K mg) : FnAt P w K mg base 1 "show_number" 1 .v F_show_number [] := by
  have b_str := Z.b_str
  obtain ⟨fd, f, hm, F⟩ := Z.f_show_number
  refine okDef (df := D_show_number) (N := ["number", "top", "bottom"]) (ps := ["number"]) F hm (by decide +kernel) rfl rfl ?_ ?_ ?_
  · intro kV doc pm an cdv ct us hl
    match us, hl with
    | [u0], _ => rfl
  · exact fun c hc => (List.not_mem_nil hc).elim
  · intro cdv A outer s H E n0 hr
    have hN : (["number", "top", "bottom"] : List Str).Nodup := by decide +kernel
    exact (okS_cons (okS_set (okE_var rfl (by first | exact .inl rfl | exact .inr (.inl rfl) | exact .inr (.inr rfl)) rfl rfl) (okG_tup (fun Y hY => by cases hY; rfl) (fun Y hY => by cases hY; rfl) (okGs_cons (okG_nameX hN rfl (by first | exact .inl rfl | exact .inr rfl) (.inl rfl)) (okGs_cons (okG_nameX hN rfl (by first | exact .inl rfl | exact .inr rfl) (.inl rfl)) okGs_nil (fun Y hY => by cases hY; rfl)) (fun Y hY => by cases hY; rfl)) (fun Y hY => by cases hY; rfl) (fun Y hY => by cases hY; rfl)) rfl rfl rfl) (okS_cons (okS_ret (Ok.ve (ok_ife (ok_eq hr.units (okE_var rfl (by first | exact .inl rfl | exact .inr (.inl rfl) | exact .inr (.inr rfl)) rfl rfl) okE_int rfl) (Ok.plain (okE_callTy (T := "str") call_str_int prim_str rfl b_str (by decide +kernel) (okEs_cons (okE_var rfl (by first | exact .inl rfl | exact .inr (.inl rfl) | exact .inr (.inr rfl)) rfl rfl) okEs_nil rfl) (by decide) rfl rfl rfl) (fun _ => rfl)) (Ok.plain (n2e (okN_add (n2e (okN_add (okE_callTy (T := "str") call_str_int prim_str rfl b_str (by decide +kernel) (okEs_cons (okE_var rfl (by first | exact .inl rfl | exact .inr (.inl rfl) | exact .inr (.inr rfl)) rfl rfl) okEs_nil rfl) (by decide) rfl rfl rfl) (okE_str (by decide +kernel)))) (okE_callTy (T := "str") call_str_int prim_str rfl b_str (by decide +kernel) (okEs_cons (okE_var rfl (by first | exact .inl rfl | exact .inr (.inl rfl) | exact .inr (.inr rfl)) rfl rfl) okEs_nil rfl) (by decide) rfl rfl rfl))) (fun _ => rfl))))) okS_nil))
theorem h_show_shares (Z : Hd K mg) : FnAt P w K mg base 2 "show_shares" 1 .v F_show_shares [] := by
  have h_show_number := h_show_number (P := P) (w := w) (base := base) Z
  obtain ⟨fd, f, hm, F⟩ := Z.f_show_shares
  refine okDef (df := D_show_shares) (N := ["shares", "share"]) (ps := ["shares"]) F hm (by decide +kernel) rfl rfl ?_ ?_ ?_
  · intro kV doc pm an cdv ct us hl
    match us, hl with
    | [u0], _ => rfl
  · exact fun c hc => (List.not_mem_nil hc).elim
  · intro cdv A outer s H E n0 hr
    have hN : (["shares", "share"] : List Str).Nodup := by decide +kernel
    exact (okS_cons (okS_ret (okE_join (okE_str (by decide +kernel)) (n2e (okN_lc (own := [("share", 1)]) rfl hN (okI_of (okE_var rfl (by first | exact .inl rfl | exact .inr (.inl rfl) | exact .inr (.inr rfl)) rfl rfl)) (blkOk_by (show blkC ["shares", "share"] (defScope (top 21)) _ _ = true by decide +kernel)) (okG_nameB hN rfl rfl) (by decide) (fun Y hY => by obtain ⟨s, H, C, cl, fp, rfl⟩ := hY; exact okTs_nil) (fun Y hY => by obtain ⟨s, H, C, cl, fp, rfl⟩ := hY; exact (okE_call h_show_number (hr.mono (by decide)) rfl takes_W0 rfl (okEs_cons (okE_var rfl (by first | exact .inl rfl | exact .inr (.inl rfl) | exact .inr (.inr rfl)) rfl rfl) okEs_nil rfl) rfl rfl rfl)) (fun _ => rfl))) rfl rfl rfl)) okS_nil)
theorem h_show_figures (Z : Hd K mg) : FnAt P w K mg base 2 "show_figures" 1 .v F_show_figures [] := by
  have h_joined := h_joined (P := P) (w := w) (base := base) Z
  obtain ⟨fd, f, hm, F⟩ := Z.f_show_figures
  refine okDef (df := D_show_figures) (N := ["told", "ahead", "again"]) (ps := ["told"]) F hm (by decide +kernel) rfl rfl ?_ ?_ ?_
  · intro kV doc pm an cdv ct us hl
    match us, hl with
    | [u0], _ => rfl
  · exact fun c hc => (List.not_mem_nil hc).elim
  · intro cdv A outer s H E n0 hr
    have hN : (["told", "ahead", "again"] : List Str).Nodup := by decide +kernel
    exact (okS_cons (okS_set (okE_var rfl (by first | exact .inl rfl | exact .inr (.inl rfl) | exact .inr (.inr rfl)) rfl rfl) (okG_tup (fun Y hY => by cases hY; rfl) (fun Y hY => by cases hY; rfl) (okGs_cons (okG_nameX hN rfl (by first | exact .inl rfl | exact .inr rfl) (.inl rfl)) (okGs_cons (okG_nameX hN rfl (by first | exact .inl rfl | exact .inr rfl) (.inl rfl)) okGs_nil (fun Y hY => by cases hY; rfl)) (fun Y hY => by cases hY; rfl)) (fun Y hY => by cases hY; rfl) (fun Y hY => by cases hY; rfl)) rfl rfl rfl) (okS_cons (okS_ret (n2e (okN_add (n2e (okN_add (n2e (okN_add (okE_call h_joined (hr.mono (by decide)) rfl takes_X rfl (okEs_cons (okE_var rfl (by first | exact .inl rfl | exact .inr (.inl rfl) | exact .inr (.inr rfl)) rfl rfl) okEs_nil rfl) rfl rfl rfl) (okE_str (by decide +kernel)))) (okE_call h_joined (hr.mono (by decide)) rfl takes_X rfl (okEs_cons (okE_var rfl (by first | exact .inl rfl | exact .inr (.inl rfl) | exact .inr (.inr rfl)) rfl rfl) okEs_nil rfl) rfl rfl rfl))) (okE_str (by decide +kernel))))) okS_nil))
theorem h_show_tosses (Z : Hd K mg) : FnAt P w K mg base 2 "show_tosses" 1 .v F_show_tosses [] := by
  have b_len := Z.b_len
  have g_NONE := Z.g_NONE
  have r_NONE := Z.r_NONE
  have h_joined := h_joined (P := P) (w := w) (base := base) Z
  obtain ⟨fd, f, hm, F⟩ := Z.f_show_tosses
  refine okDef (df := D_show_tosses) (N := ["tosses"]) (ps := ["tosses"]) F hm (by decide +kernel) rfl rfl ?_ ?_ ?_
  · intro kV doc pm an cdv ct us hl
    match us, hl with
    | [u0], _ => rfl
  · exact fun c hc => (List.not_mem_nil hc).elim
  · intro cdv A outer s H E n0 hr
    have hN : (["tosses"] : List Str).Nodup := by decide +kernel
    exact (okS_cons (okS_ret (Ok.ve (ok_ife (ok_gt (okE_callB (id := "len") call_len prim_len rfl b_len (by decide +kernel) (okEs_cons (okE_var rfl (by first | exact .inl rfl | exact .inr (.inl rfl) | exact .inr (.inr rfl)) rfl rfl) okEs_nil rfl) (by decide) rfl rfl rfl) okE_int rfl) (Ok.plain (okE_call h_joined (hr.mono (by decide)) rfl takes_X rfl (okEs_cons (okE_var rfl (by first | exact .inl rfl | exact .inr (.inl rfl) | exact .inr (.inr rfl)) rfl rfl) okEs_nil rfl) rfl rfl rfl) (fun _ => rfl)) (Ok.plain (okE_g (C8.pe_gc rfl g_NONE rfl) r_NONE) (fun _ => rfl))))) okS_nil)
theorem h_integer_of (Z : Hd K mg) : FnAt P w K mg base 1 "integer_of" 1 .v F_integer_of [] := by
  have b_all := Z.b_all
  have b_int := Z.b_int
  have b_len := Z.b_len
  have b_str := Z.b_str
  have g_DIGITS := Z.g_DIGITS
  have r_DIGITS := Z.r_DIGITS
  have g_MOST_DIGITS := Z.g_MOST_DIGITS
  have r_MOST_DIGITS := Z.r_MOST_DIGITS
  obtain ⟨fd, f, hm, F⟩ := Z.f_integer_of
  refine okDef (df := D_integer_of) (N := ["text", "sign"]) (ps := ["text"]) F hm (by decide +kernel) rfl rfl ?_ ?_ ?_
  · intro kV doc pm an cdv ct us hl
    match us, hl with
    | [u0], _ => rfl
  · exact fun c hc => (List.not_mem_nil hc).elim
  · intro cdv A outer s H E n0 hr
    have hN : (["text", "sign"] : List Str).Nodup := by decide +kernel
    exact (okS_cons (okS_if (Ok.te (OkW.ok (ok_or (ok_not (ok_chLE okE_int (okE_callB (id := "len") call_len prim_len rfl b_len (by decide +kernel) (okEs_cons (okE_var rfl (by first | exact .inl rfl | exact .inr (.inl rfl) | exact .inr (.inr rfl)) rfl rfl) okEs_nil rfl) (by decide) rfl rfl rfl) (okE_g (C8.pe_gc rfl g_MOST_DIGITS rfl) r_MOST_DIGITS) (by with_unfolding_all rfl))) (ok_or1 (ok_not (Ok.plain (okE_callB (id := "all") (cr_all rfl) prim_all rfl b_all (by decide +kernel) (okEs_cons (n2e (okN_lc (own := [("sign", 1)]) rfl hN (okI_of (okE_var rfl (by first | exact .inl rfl | exact .inr (.inl rfl) | exact .inr (.inr rfl)) rfl rfl)) (blkOk_by (show blkC ["text", "sign"] (defScope (top 27)) _ _ = true by decide +kernel)) (okG_nameB hN rfl rfl) (by decide) (fun Y hY => by obtain ⟨s, H, C, cl, fp, rfl⟩ := hY; exact okTs_nil) (fun Y hY => by obtain ⟨s, H, C, cl, fp, rfl⟩ := hY; exact (Ok.ve (ok_in (room65 hr) (okE_var rfl (by first | exact .inl rfl | exact .inr (.inl rfl) | exact .inr (.inr rfl)) rfl rfl) (okE_g (C8.pe_gc rfl g_DIGITS rfl) r_DIGITS) rfl))) (fun _ => rfl))) okEs_nil rfl) (by decide) rfl rfl rfl) (fun _ => rfl))))))) (okS_cons (okS_ret okE_non) okS_nil) okS_nil) (okS_cons (okS_ret (Ok.ve (ok_ife (ok_eq hr.units (okE_callTy (T := "str") call_str_int prim_str rfl b_str (by decide +kernel) (okEs_cons (okE_callTy (T := "int") call_int_str prim_intS rfl b_int (by decide +kernel) (okEs_cons (okE_var rfl (by first | exact .inl rfl | exact .inr (.inl rfl) | exact .inr (.inr rfl)) rfl rfl) okEs_nil rfl) (by decide) rfl rfl rfl) okEs_nil rfl) (by decide) rfl rfl rfl) (okE_var rfl (by first | exact .inl rfl | exact .inr (.inl rfl) | exact .inr (.inr rfl)) rfl rfl) rfl) (Ok.plain (okE_callTy (T := "int") call_int_str prim_intS rfl b_int (by decide +kernel) (okEs_cons (okE_var rfl (by first | exact .inl rfl | exact .inr (.inl rfl) | exact .inr (.inr rfl)) rfl rfl) okEs_nil rfl) (by decide) rfl rfl rfl) (fun _ => rfl)) (Ok.plain okE_non (fun _ => rfl))))) okS_nil))
theorem h_whole (Z : Hd K mg) : FnAt P w K mg base 1 "whole" 1 .v F_whole [] := by
  have b_any := Z.b_any
  have b_tuple := Z.b_tuple
  obtain ⟨fd, f, hm, F⟩ := Z.f_whole
  refine okDef (df := D_whole) (N := ["parts", "part"]) (ps := ["parts"]) F hm (by decide +kernel) rfl rfl ?_ ?_ ?_
  · intro kV doc pm an cdv ct us hl
    match us, hl with
    | [u0], _ => rfl
  · exact fun c hc => (List.not_mem_nil hc).elim
  · intro cdv A outer s H E n0 hr
    have hN : (["parts", "part"] : List Str).Nodup := by decide +kernel
    exact (okS_cons (okS_ret (Ok.ve (ok_ife (Ok.plain (okE_callB (id := "any") (cr_any rfl) prim_any rfl b_any (by decide +kernel) (okEs_cons (n2e (okN_lc (own := [("part", 1)]) rfl hN (okI_of (okE_var rfl (by first | exact .inl rfl | exact .inr (.inl rfl) | exact .inr (.inr rfl)) rfl rfl)) (blkOk_by (show blkC ["parts", "part"] (defScope (top 28)) _ _ = true by decide +kernel)) (okG_nameB hN rfl rfl) (by decide) (fun Y hY => by obtain ⟨s, H, C, cl, fp, rfl⟩ := hY; exact okTs_nil) (fun Y hY => by obtain ⟨s, H, C, cl, fp, rfl⟩ := hY; exact (Ok.ve (ok_isN (okE_var rfl (by first | exact .inl rfl | exact .inr (.inl rfl) | exact .inr (.inr rfl)) rfl rfl) rfl))) (fun _ => rfl))) okEs_nil rfl) (by decide) rfl rfl rfl) (fun _ => rfl)) (Ok.plain okE_non (fun _ => rfl)) (Ok.plain (okE_callTy (T := "tuple") call_tuple_of prim_tuple rfl b_tuple (by decide +kernel) (okEs_cons (okE_var rfl (by first | exact .inl rfl | exact .inr (.inl rfl) | exact .inr (.inr rfl)) rfl rfl) okEs_nil rfl) (by decide) rfl rfl rfl) (fun _ => rfl))))) okS_nil)
theorem h_number_of (Z : Hd K mg) : FnAt P w K mg base 4 "number_of" 1 .v F_number_of [] := by
  have h_is_number := h_is_number (P := P) (w := w) (base := base) Z
  have h_show_number := h_show_number (P := P) (w := w) (base := base) Z
  have h_integer_of := h_integer_of (P := P) (w := w) (base := base) Z
  have h_whole := h_whole (P := P) (w := w) (base := base) Z
  obtain ⟨fd, f, hm, F⟩ := Z.f_number_of
  refine okDef (df := D_number_of) (N := ["word", "top", "slash", "bottom", "found"]) (ps := ["word"]) F hm (by decide +kernel) rfl rfl ?_ ?_ ?_
  · intro kV doc pm an cdv ct us hl
    match us, hl with
    | [u0], _ => rfl
  · exact fun c hc => (List.not_mem_nil hc).elim
  · intro cdv A outer s H E n0 hr
    have hN : (["word", "top", "slash", "bottom", "found"] : List Str).Nodup := by decide +kernel
    exact (okS_cons (okS_set (okE_partition (okE_var rfl (by first | exact .inl rfl | exact .inr (.inl rfl) | exact .inr (.inr rfl)) rfl rfl) (okE_str (by decide +kernel)) rfl rfl rfl) (okG_tup (fun Y hY => by cases hY; rfl) (fun Y hY => by cases hY; rfl) (okGs_cons (okG_nameX hN rfl (by first | exact .inl rfl | exact .inr rfl) (.inl rfl)) (okGs_cons (okG_nameX hN rfl (by first | exact .inl rfl | exact .inr rfl) (.inl rfl)) (okGs_cons (okG_nameX hN rfl (by first | exact .inl rfl | exact .inr rfl) (.inl rfl)) okGs_nil (fun Y hY => by cases hY; rfl)) (fun Y hY => by cases hY; rfl)) (fun Y hY => by cases hY; rfl)) (fun Y hY => by cases hY; rfl) (fun Y hY => by cases hY; rfl)) rfl rfl rfl) (okS_cons (okS_set (okE_call h_whole (hr.mono (by decide)) rfl takes_X rfl (okEs_cons (n2e (okN_lst (okEs_cons (okE_call h_integer_of (hr.mono (by decide)) rfl takes_X rfl (okEs_cons (okE_var rfl (by first | exact .inl rfl | exact .inr (.inl rfl) | exact .inr (.inr rfl)) rfl rfl) okEs_nil rfl) rfl rfl rfl) (okEs_cons (Ok.ve (ok_ife (ok_eq hr.units (okE_var rfl (by first | exact .inl rfl | exact .inr (.inl rfl) | exact .inr (.inr rfl)) rfl rfl) (okE_str (by decide +kernel)) rfl) (Ok.plain (okE_call h_integer_of (hr.mono (by decide)) rfl takes_X rfl (okEs_cons (okE_var rfl (by first | exact .inl rfl | exact .inr (.inl rfl) | exact .inr (.inr rfl)) rfl rfl) okEs_nil rfl) rfl rfl rfl) (fun _ => rfl)) (Ok.plain okE_int (fun _ => rfl)))) okEs_nil rfl) rfl) (by decide))) okEs_nil rfl) rfl rfl rfl) (okG_nameX hN rfl (by first | exact .inl rfl | exact .inr rfl) (.inl rfl)) rfl rfl rfl) (okS_cons (okS_ret (Ok.ve (ok_ife (OkW.ok (ok_and (ok_notN (okE_var rfl (by first | exact .inl rfl | exact .inr (.inl rfl) | exact .inr (.inr rfl)) rfl rfl) rfl) (ok_and (Ok.plain (okE_call h_is_number (hr.mono (by decide)) rfl takes_X rfl (okEs_cons (okE_var rfl (by first | exact .inl rfl | exact .inr (.inl rfl) | exact .inr (.inr rfl)) rfl rfl) okEs_nil rfl) rfl rfl rfl) (fun _ => rfl)) (ok_and1 (ok_eq hr.units (okE_call h_show_number (hr.mono (by decide)) rfl takes_X rfl (okEs_cons (okE_var rfl (by first | exact .inl rfl | exact .inr (.inl rfl) | exact .inr (.inr rfl)) rfl rfl) okEs_nil rfl) rfl rfl rfl) (okE_var rfl (by first | exact .inl rfl | exact .inr (.inl rfl) | exact .inr (.inr rfl)) rfl rfl) rfl))))) (Ok.plain (okE_var rfl (by first | exact .inl rfl | exact .inr (.inl rfl) | exact .inr (.inr rfl)) rfl rfl) (fun _ => rfl)) (Ok.plain okE_non (fun _ => rfl))))) okS_nil)))
theorem h_shares_of (Z : Hd K mg) : FnAt P w K mg base 6 "shares_of" 1 .v F_shares_of [] := by
  have h_is_shares := h_is_shares (P := P) (w := w) (base := base) Z
  have h_whole := h_whole (P := P) (w := w) (base := base) Z
  have h_number_of := h_number_of (P := P) (w := w) (base := base) Z
  obtain ⟨fd, f, hm, F⟩ := Z.f_shares_of
  refine okDef (df := D_shares_of) (N := ["line", "found", "word"]) (ps := ["line"]) F hm (by decide +kernel) rfl rfl ?_ ?_ ?_
  · intro kV doc pm an cdv ct us hl
    match us, hl with
    | [u0], _ => rfl
  · exact fun c hc => (List.not_mem_nil hc).elim
  · intro cdv A outer s H E n0 hr
    have hN : (["line", "found", "word"] : List Str).Nodup := by decide +kernel
    exact (okS_cons (okS_set (okE_call h_whole (hr.mono (by decide)) rfl takes_X rfl (okEs_cons (n2e (okN_lc (own := [("word", 2)]) rfl hN (okI_of (n2e (okN_split (okE_var rfl (by first | exact .inl rfl | exact .inr (.inl rfl) | exact .inr (.inr rfl)) rfl rfl) (okE_str (by decide +kernel)) rfl rfl rfl))) (blkOk_by (show blkC ["line", "found", "word"] (defScope (top 30)) _ _ = true by decide +kernel)) (okG_nameB hN rfl rfl) (by decide) (fun Y hY => by obtain ⟨s, H, C, cl, fp, rfl⟩ := hY; exact okTs_nil) (fun Y hY => by obtain ⟨s, H, C, cl, fp, rfl⟩ := hY; exact (okE_call h_number_of (hr.mono (by decide)) rfl takes_W0 rfl (okEs_cons (okE_var rfl (by first | exact .inl rfl | exact .inr (.inl rfl) | exact .inr (.inr rfl)) rfl rfl) okEs_nil rfl) rfl rfl rfl)) (fun _ => rfl))) okEs_nil rfl) rfl rfl rfl) (okG_nameX hN rfl (by first | exact .inl rfl | exact .inr rfl) (.inl rfl)) rfl rfl rfl) (okS_cons (okS_ret (Ok.ve (ok_ife (OkW.ok (ok_and (ok_notN (okE_var rfl (by first | exact .inl rfl | exact .inr (.inl rfl) | exact .inr (.inr rfl)) rfl rfl) rfl) (ok_and1 (Ok.plain (okE_call h_is_shares (hr.mono (by decide)) rfl takes_X rfl (okEs_cons (okE_var rfl (by first | exact .inl rfl | exact .inr (.inl rfl) | exact .inr (.inr rfl)) rfl rfl) okEs_nil rfl) rfl rfl rfl) (fun _ => rfl))))) (Ok.plain (okE_var rfl (by first | exact .inl rfl | exact .inr (.inl rfl) | exact .inr (.inr rfl)) rfl rfl) (fun _ => rfl)) (Ok.plain okE_non (fun _ => rfl))))) okS_nil))
theorem h_signs_of (Z : Hd K mg) : FnAt P w K mg base 1 "signs_of" 1 .v F_signs_of [] := by
  have b_all := Z.b_all
  have b_int := Z.b_int
  have b_tuple := Z.b_tuple
  obtain ⟨fd, f, hm, F⟩ := Z.f_signs_of
  refine okDef (df := D_signs_of) (N := ["text", "sign"]) (ps := ["text"]) F hm (by decide +kernel) rfl rfl ?_ ?_ ?_
  · intro kV doc pm an cdv ct us hl
    match us, hl with
    | [u0], _ => rfl
  · exact fun c hc => (List.not_mem_nil hc).elim
  · intro cdv A outer s H E n0 hr
    have hN : (["text", "sign"] : List Str).Nodup := by decide +kernel
    exact (okS_cons (okS_ret (Ok.ve (ok_ife (Ok.plain (okE_callB (id := "all") (cr_all rfl) prim_all rfl b_all (by decide +kernel) (okEs_cons (n2e (okN_lc (own := [("sign", 1)]) rfl hN (okI_of (okE_var rfl (by first | exact .inl rfl | exact .inr (.inl rfl) | exact .inr (.inr rfl)) rfl rfl)) (blkOk_by (show blkC ["text", "sign"] (defScope (top 31)) _ _ = true by decide +kernel)) (okG_nameB hN rfl rfl) (by decide) (fun Y hY => by obtain ⟨s, H, C, cl, fp, rfl⟩ := hY; exact okTs_nil) (fun Y hY => by obtain ⟨s, H, C, cl, fp, rfl⟩ := hY; exact (Ok.ve (ok_in (room65 hr) (okE_var rfl (by first | exact .inl rfl | exact .inr (.inl rfl) | exact .inr (.inr rfl)) rfl rfl) (okE_str (by decide +kernel)) rfl))) (fun _ => rfl))) okEs_nil rfl) (by decide) rfl rfl rfl) (fun _ => rfl)) (Ok.plain (okE_callTy (T := "tuple") call_tuple_of prim_tuple rfl b_tuple (by decide +kernel) (okEs_cons (n2e (okN_lc (own := [("sign", 1)]) rfl hN (okI_of (okE_var rfl (by first | exact .inl rfl | exact .inr (.inl rfl) | exact .inr (.inr rfl)) rfl rfl)) (blkOk_by (show blkC ["text", "sign"] (defScope (top 31)) _ _ = true by decide +kernel)) (okG_nameB hN rfl rfl) (by decide) (fun Y hY => by obtain ⟨s, H, C, cl, fp, rfl⟩ := hY; exact okTs_nil) (fun Y hY => by obtain ⟨s, H, C, cl, fp, rfl⟩ := hY; exact (okE_callTy (T := "int") call_int_str prim_intS rfl b_int (by decide +kernel) (okEs_cons (okE_var rfl (by first | exact .inl rfl | exact .inr (.inl rfl) | exact .inr (.inr rfl)) rfl rfl) okEs_nil rfl) (by decide) rfl rfl rfl)) (fun _ => rfl))) okEs_nil rfl) (by decide) rfl rfl rfl) (fun _ => rfl)) (Ok.plain okE_non (fun _ => rfl))))) okS_nil)
theorem h_figures_of (Z : Hd K mg) : FnAt P w K mg base 2 "figures_of" 1 .v F_figures_of [] := by
  have h_whole := h_whole (P := P) (w := w) (base := base) Z
  have h_signs_of := h_signs_of (P := P) (w := w) (base := base) Z
  obtain ⟨fd, f, hm, F⟩ := Z.f_figures_of
  refine okDef (df := D_figures_of) (N := ["line", "ahead", "gap", "rest"]) (ps := ["line"]) F hm (by decide +kernel) rfl rfl ?_ ?_ ?_
  · intro kV doc pm an cdv ct us hl
    match us, hl with
    | [u0], _ => rfl
  · exact fun c hc => (List.not_mem_nil hc).elim
  · intro cdv A outer s H E n0 hr
    have hN : (["line", "ahead", "gap", "rest"] : List Str).Nodup := by decide +kernel
    exact (okS_cons (okS_set (okE_partition (okE_var rfl (by first | exact .inl rfl | exact .inr (.inl rfl) | exact .inr (.inr rfl)) rfl rfl) (okE_str (by decide +kernel)) rfl rfl rfl) (okG_tup (fun Y hY => by cases hY; rfl) (fun Y hY => by cases hY; rfl) (okGs_cons (okG_nameX hN rfl (by first | exact .inl rfl | exact .inr rfl) (.inl rfl)) (okGs_cons (okG_nameX hN rfl (by first | exact .inl rfl | exact .inr rfl) (.inl rfl)) (okGs_cons (okG_nameX hN rfl (by first | exact .inl rfl | exact .inr rfl) (.inl rfl)) okGs_nil (fun Y hY => by cases hY; rfl)) (fun Y hY => by cases hY; rfl)) (fun Y hY => by cases hY; rfl)) (fun Y hY => by cases hY; rfl) (fun Y hY => by cases hY; rfl)) rfl rfl rfl) (okS_cons (okS_if (Ok.te (OkW.ok (ok_or (ok_eq hr.units (okE_var rfl (by first | exact .inl rfl | exact .inr (.inl rfl) | exact .inr (.inr rfl)) rfl rfl) (okE_str (by decide +kernel)) rfl) (ok_or (ok_not (Ok.plain (okE_endswith (okE_var rfl (by first | exact .inl rfl | exact .inr (.inl rfl) | exact .inr (.inr rfl)) rfl rfl) (okE_str (by decide +kernel)) rfl rfl rfl) (fun _ => rfl))) (ok_or1 (ok_eq hr.units (okE_var rfl (by first | exact .inl rfl | exact .inr (.inl rfl) | exact .inr (.inr rfl)) rfl rfl) (okE_str (by decide +kernel)) rfl)))))) (okS_cons (okS_ret okE_non) okS_nil) okS_nil) (okS_cons (okS_ret (okE_call h_whole (hr.mono (by decide)) rfl takes_X rfl (okEs_cons (n2e (okN_lst (okEs_cons (okE_call h_signs_of (hr.mono (by decide)) rfl takes_X rfl (okEs_cons (okE_var rfl (by first | exact .inl rfl | exact .inr (.inl rfl) | exact .inr (.inr rfl)) rfl rfl) okEs_nil rfl) rfl rfl rfl) (okEs_cons (okE_call h_signs_of (hr.mono (by decide)) rfl takes_X rfl (okEs_cons (n2e (okN_slHi (okE_var rfl (by first | exact .inl rfl | exact .inr (.inl rfl) | exact .inr (.inr rfl)) rfl rfl) (okE_neg okE_int))) okEs_nil rfl) rfl rfl rfl) okEs_nil rfl) rfl) (by decide))) okEs_nil rfl) rfl rfl rfl)) okS_nil)))
theorem h_tosses_of (Z : Hd K mg) : FnAt P w K mg base 2 "tosses_of" 1 .v F_tosses_of [] := by
  have g_NONE := Z.g_NONE
  have r_NONE := Z.r_NONE
  have h_signs_of := h_signs_of (P := P) (w := w) (base := base) Z
  obtain ⟨fd, f, hm, F⟩ := Z.f_tosses_of
  refine okDef (df := D_tosses_of) (N := ["line"]) (ps := ["line"]) F hm (by decide +kernel) rfl rfl ?_ ?_ ?_
  · intro kV doc pm an cdv ct us hl
    match us, hl with
    | [u0], _ => rfl
  · exact fun c hc => (List.not_mem_nil hc).elim
  · intro cdv A outer s H E n0 hr
    have hN : (["line"] : List Str).Nodup := by decide +kernel
    exact (okS_cons (okS_if (Ok.te (ok_eq hr.units (okE_var rfl (by first | exact .inl rfl | exact .inr (.inl rfl) | exact .inr (.inr rfl)) rfl rfl) (okE_g (C8.pe_gc rfl g_NONE rfl) r_NONE) rfl)) (okS_cons (okS_ret (okE_tup okEs_nil (by decide))) okS_nil) okS_nil) (okS_cons (okS_ret (Ok.ve (ok_ife (ok_ne hr.units (okE_var rfl (by first | exact .inl rfl | exact .inr (.inl rfl) | exact .inr (.inr rfl)) rfl rfl) (okE_str (by decide +kernel)) rfl) (Ok.plain (okE_call h_signs_of (hr.mono (by decide)) rfl takes_X rfl (okEs_cons (okE_var rfl (by first | exact .inl rfl | exact .inr (.inl rfl) | exact .inr (.inr rfl)) rfl rfl) okEs_nil rfl) rfl rfl rfl) (fun _ => rfl)) (Ok.plain okE_non (fun _ => rfl))))) okS_nil))
theorem h_only (Z : Hd K mg) : FnAt P w K mg base 7 "only" 2 .v F_only [] := by
  have v_figures_of := Z.v_figures_of
  have v_number_of := Z.v_number_of
  have v_shares_of := Z.v_shares_of
  have v_tosses_of := Z.v_tosses_of
  have o_Unreadable := ox_Unreadable (P := P) (w := w) (base := base) Z
  have h_number_of := h_number_of (P := P) (w := w) (base := base) Z
  have h_shares_of := h_shares_of (P := P) (w := w) (base := base) Z
  have h_figures_of := h_figures_of (P := P) (w := w) (base := base) Z
  have h_tosses_of := h_tosses_of (P := P) (w := w) (base := base) Z
  obtain ⟨fd, f, hm, F⟩ := Z.f_only
  refine okDef (df := D_only) (N := ["told", "text", "line", "gap", "rest", "found"]) (ps := ["told", "text"]) F hm (by decide +kernel) rfl rfl ?_ ?_ ?_
  · intro kV doc pm an cdv ct us hl
    match us, hl with
    | [u0, u1], _ => rfl
  · exact fun c hc => (List.not_mem_nil hc).elim
  · intro cdv A outer s H E n0 hr
    have hN : (["told", "text", "line", "gap", "rest", "found"] : List Str).Nodup := by decide +kernel
    exact (okS_cons (okS_set (okE_partition (okE_var rfl (by first | exact .inl rfl | exact .inr (.inl rfl) | exact .inr (.inr rfl)) rfl rfl) (okE_str (by decide +kernel)) rfl rfl rfl) (okG_tup (fun Y hY => by cases hY; rfl) (fun Y hY => by cases hY; rfl) (okGs_cons (okG_nameX hN rfl (by first | exact .inl rfl | exact .inr rfl) (.inl rfl)) (okGs_cons (okG_nameX hN rfl (by first | exact .inl rfl | exact .inr rfl) (.inl rfl)) (okGs_cons (okG_nameX hN rfl (by first | exact .inl rfl | exact .inr rfl) (.inl rfl)) okGs_nil (fun Y hY => by cases hY; rfl)) (fun Y hY => by cases hY; rfl)) (fun Y hY => by cases hY; rfl)) (fun Y hY => by cases hY; rfl) (fun Y hY => by cases hY; rfl)) rfl rfl rfl) (okS_cons (okS_set (okE_callv (k := 6) (tbl_cons v_number_of h_number_of (by decide) (tbl_cons v_shares_of h_shares_of (by decide) (tbl_cons v_figures_of h_figures_of (by decide) (tbl_cons v_tosses_of h_tosses_of (by decide) tbl_nil)))) (hr.mono (by decide)) rfl (by first | exact .inl rfl | exact .inr (.inl rfl) | exact .inr (.inr rfl)) takes_X rfl (okEs_cons (okE_var rfl (by first | exact .inl rfl | exact .inr (.inl rfl) | exact .inr (.inr rfl)) rfl rfl) okEs_nil rfl) rfl rfl rfl rfl) (okG_nameX hN rfl (by first | exact .inl rfl | exact .inr rfl) (.inl rfl)) rfl rfl rfl) (okS_cons (okS_if (Ok.te (ok_isN (okE_var rfl (by first | exact .inl rfl | exact .inr (.inl rfl) | exact .inr (.inr rfl)) rfl rfl) rfl)) (okS_cons (okS_rai o_Unreadable (hr.mono (by decide)) rfl takes_X rfl rfl okE_int rfl rfl) okS_nil) okS_nil) (okS_cons (okS_if (Ok.te (ok_ne hr.units (okE_var rfl (by first | exact .inl rfl | exact .inr (.inl rfl) | exact .inr (.inr rfl)) rfl rfl) (okE_str (by decide +kernel)) rfl)) (okS_cons (okS_rai o_Unreadable (hr.mono (by decide)) rfl takes_X rfl rfl okE_int rfl rfl) okS_nil) okS_nil) (okS_cons (okS_ret (okE_var rfl (by first | exact .inl rfl | exact .inr (.inl rfl) | exact .inr (.inr rfl)) rfl rfl)) okS_nil)))))
theorem h_read_number (Z : Hd K mg) : FnAt P w K mg base 8 "read_number" 1 .v F_read_number [(0, ["text"], [0])] := by
  have v_number_of := Z.v_number_of
  have h_only := h_only (P := P) (w := w) (base := base) Z
  obtain ⟨fd, f, hm, F⟩ := Z.f_read_number
  refine okDef (df := D_read_number) (N := ["text"]) (ps := ["text"]) F hm (by decide +kernel) rfl rfl ?_ ?_ ?_
  · intro kV doc pm an cdv ct us hl
    match us, hl with
    | [u0], _ => rfl
  · intro c hc
    simp only [List.mem_cons, List.mem_nil_iff, or_false] at hc
    subst hc
    · intro kV doc pm an cdv ct us ws h1 h2
      match us, ws, h1, h2 with
      | [], [w0], _, _ => rfl
  · intro cdv A outer s H E n0 hr
    have hN : (["text"] : List Str).Nodup := by decide +kernel
    exact (okS_cons (okS_ret (okE_call h_only (hr.mono (by decide)) rfl takes_X rfl (okEs_cons (okE_g (v := V.ref (He.ga K "number_of")) (C8.pe_gc rfl ⟨_, v_number_of, rfl⟩ rfl) (rep_fn "number_of")) (okEs_cons (okE_var rfl (by first | exact .inl rfl | exact .inr (.inl rfl) | exact .inr (.inr rfl)) rfl rfl) okEs_nil rfl) rfl) rfl rfl rfl)) okS_nil)
theorem h_read_shares (Z : Hd K mg) : FnAt P w K mg base 8 "read_shares" 1 .v F_read_shares [(0, ["text"], [0])] := by
  have v_shares_of := Z.v_shares_of
  have h_only := h_only (P := P) (w := w) (base := base) Z
  obtain ⟨fd, f, hm, F⟩ := Z.f_read_shares
  refine okDef (df := D_read_shares) (N := ["text"]) (ps := ["text"]) F hm (by decide +kernel) rfl rfl ?_ ?_ ?_
  · intro kV doc pm an cdv ct us hl
    match us, hl with
    | [u0], _ => rfl
  · intro c hc
    simp only [List.mem_cons, List.mem_nil_iff, or_false] at hc
    subst hc
    · intro kV doc pm an cdv ct us ws h1 h2
      match us, ws, h1, h2 with
      | [], [w0], _, _ => rfl
  · intro cdv A outer s H E n0 hr
    have hN : (["text"] : List Str).Nodup := by decide +kernel
    exact (okS_cons (okS_ret (okE_call h_only (hr.mono (by decide)) rfl takes_X rfl (okEs_cons (okE_g (v := V.ref (He.ga K "shares_of")) (C8.pe_gc rfl ⟨_, v_shares_of, rfl⟩ rfl) (rep_fn "shares_of")) (okEs_cons (okE_var rfl (by first | exact .inl rfl | exact .inr (.inl rfl) | exact .inr (.inr rfl)) rfl rfl) okEs_nil rfl) rfl) rfl rfl rfl)) okS_nil)
theorem h_read_figures (Z : Hd K mg) : FnAt P w K mg base 8 "read_figures" 1 .v F_read_figures [(0, ["text"], [0])] := by
  have v_figures_of := Z.v_figures_of
  have h_only := h_only (P := P) (w := w) (base := base) Z
  obtain ⟨fd, f, hm, F⟩ := Z.f_read_figures
  refine okDef (df := D_read_figures) (N := ["text"]) (ps := ["text"]) F hm (by decide +kernel) rfl rfl ?_ ?_ ?_
  · intro kV doc pm an cdv ct us hl
    match us, hl with
    | [u0], _ => rfl
  · intro c hc
    simp only [List.mem_cons, List.mem_nil_iff, or_false] at hc
    subst hc
    · intro kV doc pm an cdv ct us ws h1 h2
      match us, ws, h1, h2 with
      | [], [w0], _, _ => rfl
  · intro cdv A outer s H E n0 hr
    have hN : (["text"] : List Str).Nodup := by decide +kernel
    exact (okS_cons (okS_ret (okE_call h_only (hr.mono (by decide)) rfl takes_X rfl (okEs_cons (okE_g (v := V.ref (He.ga K "figures_of")) (C8.pe_gc rfl ⟨_, v_figures_of, rfl⟩ rfl) (rep_fn "figures_of")) (okEs_cons (okE_var rfl (by first | exact .inl rfl | exact .inr (.inl rfl) | exact .inr (.inr rfl)) rfl rfl) okEs_nil rfl) rfl) rfl rfl rfl)) okS_nil)
theorem h_read_tosses (Z : Hd K mg) : FnAt P w K mg base 8 "read_tosses" 1 .v F_read_tosses [(0, ["text"], [0])] := by
  have v_tosses_of := Z.v_tosses_of
  have h_only := h_only (P := P) (w := w) (base := base) Z
  obtain ⟨fd, f, hm, F⟩ := Z.f_read_tosses
  refine okDef (df := D_read_tosses) (N := ["text"]) (ps := ["text"]) F hm (by decide +kernel) rfl rfl ?_ ?_ ?_
  · intro kV doc pm an cdv ct us hl
    match us, hl with
    | [u0], _ => rfl
  · intro c hc
    simp only [List.mem_cons, List.mem_nil_iff, or_false] at hc
    subst hc
    · intro kV doc pm an cdv ct us ws h1 h2
      match us, ws, h1, h2 with
      | [], [w0], _, _ => rfl
  · intro cdv A outer s H E n0 hr
    have hN : (["text"] : List Str).Nodup := by decide +kernel
    exact (okS_cons (okS_ret (okE_call h_only (hr.mono (by decide)) rfl takes_X rfl (okEs_cons (okE_g (v := V.ref (He.ga K "tosses_of")) (C8.pe_gc rfl ⟨_, v_tosses_of, rfl⟩ rfl) (rep_fn "tosses_of")) (okEs_cons (okE_var rfl (by first | exact .inl rfl | exact .inr (.inl rfl) | exact .inr (.inr rfl)) rfl rfl) okEs_nil rfl) rfl) rfl rfl rfl)) okS_nil)
theorem h__law_pot (Z : Hd K mg) : FnAt P w K mg base 1 "_law_pot" 1 .n F__law_pot [] := by
  have b_list := Z.b_list
  obtain ⟨fd, f, hm, F⟩ := Z.f__law_pot
  refine okDef (df := D__law_pot) (N := ["script"]) (ps := ["script"]) F hm (by decide +kernel) rfl rfl ?_ ?_ ?_
  · intro kV doc pm an cdv ct us hl
    match us, hl with
    | [u0], _ => rfl
  · exact fun c hc => (List.not_mem_nil hc).elim
  · intro cdv A outer s H E n0 hr
    have hN : (["script"] : List Str).Nodup := by decide +kernel
    exact (okS_cons (okS_ret (okN_add (n2e (okN_lst (okEs_cons okE_int (okEs_cons okE_int (okEs_cons okE_int okEs_nil rfl) rfl) rfl) (by decide))) (n2e (okE_callTy (T := "list") call_list_of prim_list rfl b_list (by decide +kernel) (okEs_cons (okE_var rfl (by first | exact .inl rfl | exact .inr (.inl rfl) | exact .inr (.inr rfl)) rfl rfl) okEs_nil rfl) (by decide) rfl rfl rfl)))) okS_nil)
theorem h__law_take (Z : Hd K mg) : FnAt P w K mg base 1 "_law_take" 2 .v F__law_take [] := by
  have b_int := Z.b_int
  have b_len := Z.b_len
  obtain ⟨fd, f, hm, F⟩ := Z.f__law_take
  refine okDef (df := D__law_take) (N := ["pot", "many", "cell", "digit", "mixed"]) (ps := ["pot", "many"]) F hm (by decide +kernel) rfl rfl ?_ ?_ ?_
  · intro kV doc pm an cdv ct us hl
    match us, hl with
    | [u0, u1], _ => rfl
  · exact fun c hc => (List.not_mem_nil hc).elim
  · intro cdv A outer s H E n0 hr
    have hN : (["pot", "many", "cell", "digit", "mixed"] : List Str).Nodup := by decide +kernel
    exact (okS_cons (okS_if (Ok.te (OkW.ok (ok_and (ok_eq hr.units (okE_idx (okE_var rfl (by first | exact .inl rfl | exact .inr (.inl rfl) | exact .inr (.inr rfl)) rfl rfl) okE_int (fun _ _ => rfl)) okE_int rfl) (ok_and1 (ok_lt (okE_idx (okE_var rfl (by first | exact .inl rfl | exact .inr (.inl rfl) | exact .inr (.inr rfl)) rfl rfl) okE_int (fun _ _ => rfl)) (okE_callB (id := "len") call_len prim_len rfl b_len (by decide +kernel) (okEs_cons (okE_var rfl (by first | exact .inl rfl | exact .inr (.inl rfl) | exact .inr (.inr rfl)) rfl rfl) okEs_nil rfl) (by decide) rfl rfl rfl) rfl))))) (okS_cons (okS_set (okE_idx (okE_var rfl (by first | exact .inl rfl | exact .inr (.inl rfl) | exact .inr (.inr rfl)) rfl rfl) (okE_idx (okE_var rfl (by first | exact .inl rfl | exact .inr (.inl rfl) | exact .inr (.inr rfl)) rfl rfl) okE_int (fun _ _ => rfl)) (fun _ _ => rfl)) (okG_nameX hN rfl (by first | exact .inl rfl | exact .inr rfl) (.inl rfl)) rfl rfl rfl) (okS_cons (okS_augL (p := .iadd) (okE_var rfl (by first | exact .inl rfl | exact .inr (.inl rfl) | exact .inr (.inr rfl)) rfl rfl) okE_int okE_int ip_add prim_iadd (fun _ _ _ => rfl)) (okS_cons (okS_if (Ok.te (ok_ge (okE_var rfl (by first | exact .inl rfl | exact .inr (.inl rfl) | exact .inr (.inr rfl)) rfl rfl) (okE_pow okE_int okE_int) rfl)) (okS_cons (okS_updL (okE_var rfl (by first | exact .inl rfl | exact .inr (.inl rfl) | exact .inr (.inr rfl)) rfl rfl) okE_int (okE_sub (okE_var rfl (by first | exact .inl rfl | exact .inr (.inl rfl) | exact .inr (.inr rfl)) rfl rfl) (okE_pow okE_int okE_int)) rfl rfl rfl (fun _ => rfl)) okS_nil) (okS_cons (okS_set (okE_mod (okE_callTy (T := "int") cr_intA prim_int rfl b_int (by decide +kernel) (okEs_cons (okE_var rfl (by first | exact .inl rfl | exact .inr (.inl rfl) | exact .inr (.inr rfl)) rfl rfl) okEs_nil rfl) (by decide) rfl rfl rfl) okE_int) (okG_nameX hN rfl (by first | exact .inl rfl | exact .inr rfl) (.inl rfl)) rfl rfl rfl) (okS_cons (okS_set (okE_mod (okE_callTy (T := "int") cr_intA prim_int rfl b_int (by decide +kernel) (okEs_cons (n2e (okN_add (n2e (okN_add (n2e (okN_mul (okE_var rfl (by first | exact .inl rfl | exact .inr (.inl rfl) | exact .inr (.inr rfl)) rfl rfl) (okE_var rfl (by first | exact .inl rfl | exact .inr (.inl rfl) | exact .inr (.inr rfl)) rfl rfl))) (n2e (okN_mul okE_int (okE_var rfl (by first | exact .inl rfl | exact .inr (.inl rfl) | exact .inr (.inr rfl)) rfl rfl))))) (n2e (okN_mul okE_int (okE_idx (okE_var rfl (by first | exact .inl rfl | exact .inr (.inl rfl) | exact .inr (.inr rfl)) rfl rfl) okE_int (fun _ _ => rfl)))))) okEs_nil rfl) (by decide) rfl rfl rfl) okE_int) (okG_nameX hN rfl (by first | exact .inl rfl | exact .inr rfl) (.inl rfl)) rfl rfl rfl) (okS_cons (okS_updL (okE_var rfl (by first | exact .inl rfl | exact .inr (.inl rfl) | exact .inr (.inr rfl)) rfl rfl) okE_int (okE_mod (okE_callTy (T := "int") cr_intA prim_int rfl b_int (by decide +kernel) (okEs_cons (n2e (okN_add (okE_idx (okE_var rfl (by first | exact .inl rfl | exact .inr (.inl rfl) | exact .inr (.inr rfl)) rfl rfl) okE_int (fun _ _ => rfl)) (okE_var rfl (by first | exact .inl rfl | exact .inr (.inl rfl) | exact .inr (.inr rfl)) rfl rfl))) okEs_nil rfl) (by decide) rfl rfl rfl) okE_int) rfl rfl rfl (fun _ => rfl)) okS_nil)))) okS_nil))) okS_nil) (okS_cons (okS_if (Ok.te (ok_gt (okE_idx (okE_var rfl (by first | exact .inl rfl | exact .inr (.inl rfl) | exact .inr (.inr rfl)) rfl rfl) okE_int (fun _ _ => rfl)) okE_int rfl)) (okS_cons (okS_set (okE_mod (okE_callTy (T := "int") cr_intA prim_int rfl b_int (by decide +kernel) (okEs_cons (okE_idx (okE_var rfl (by first | exact .inl rfl | exact .inr (.inl rfl) | exact .inr (.inr rfl)) rfl rfl) okE_int (fun _ _ => rfl)) okEs_nil rfl) (by decide) rfl rfl rfl) (okE_var rfl (by first | exact .inl rfl | exact .inr (.inl rfl) | exact .inr (.inr rfl)) rfl rfl)) (okG_nameX hN rfl (by first | exact .inl rfl | exact .inr rfl) (.inl rfl)) rfl rfl rfl) (okS_cons (okS_updL (okE_var rfl (by first | exact .inl rfl | exact .inr (.inl rfl) | exact .inr (.inr rfl)) rfl rfl) okE_int (okE_fdiv (okE_idx (okE_var rfl (by first | exact .inl rfl | exact .inr (.inl rfl) | exact .inr (.inr rfl)) rfl rfl) okE_int (fun _ _ => rfl)) (okE_var rfl (by first | exact .inl rfl | exact .inr (.inl rfl) | exact .inr (.inr rfl)) rfl rfl)) rfl rfl rfl (fun _ => rfl)) (okS_cons (okS_ret (okE_var rfl (by first | exact .inl rfl | exact .inr (.inl rfl) | exact .inr (.inr rfl)) rfl rfl)) okS_nil))) okS_nil) (okS_cons (okS_updL (okE_var rfl (by first | exact .inl rfl | exact .inr (.inl rfl) | exact .inr (.inr rfl)) rfl rfl) okE_int (okE_mod (okE_callTy (T := "int") cr_intA prim_int rfl b_int (by decide +kernel) (okEs_cons (n2e (okN_add (n2e (okN_add (n2e (okN_mul (okE_idx (okE_var rfl (by first | exact .inl rfl | exact .inr (.inl rfl) | exact .inr (.inr rfl)) rfl rfl) okE_int (fun _ _ => rfl)) okE_int)) (n2e (okN_mul okE_int (okE_idx (okE_var rfl (by first | exact .inl rfl | exact .inr (.inl rfl) | exact .inr (.inr rfl)) rfl rfl) okE_int (fun _ _ => rfl)))))) okE_int)) okEs_nil rfl) (by decide) rfl rfl rfl) okE_int) rfl rfl rfl (fun _ => rfl)) (okS_cons (okS_updL (okE_var rfl (by first | exact .inl rfl | exact .inr (.inl rfl) | exact .inr (.inr rfl)) rfl rfl) okE_int (okE_mod (okE_callTy (T := "int") cr_intA prim_int rfl b_int (by decide +kernel) (okEs_cons (n2e (okN_add (n2e (okN_mul (okE_idx (okE_var rfl (by first | exact .inl rfl | exact .inr (.inl rfl) | exact .inr (.inr rfl)) rfl rfl) okE_int (fun _ _ => rfl)) (okE_idx (okE_var rfl (by first | exact .inl rfl | exact .inr (.inl rfl) | exact .inr (.inr rfl)) rfl rfl) okE_int (fun _ _ => rfl)))) okE_int)) okEs_nil rfl) (by decide) rfl rfl rfl) okE_int) rfl rfl rfl (fun _ => rfl)) (okS_cons (okS_ret (okE_mod (okE_callTy (T := "int") cr_intA prim_int rfl b_int (by decide +kernel) (okEs_cons (okE_fdiv (okE_idx (okE_var rfl (by first | exact .inl rfl | exact .inr (.inl rfl) | exact .inr (.inr rfl)) rfl rfl) okE_int (fun _ _ => rfl)) okE_int) okEs_nil rfl) (by decide) rfl rfl rfl) (okE_var rfl (by first | exact .inl rfl | exact .inr (.inl rfl) | exact .inr (.inr rfl)) rfl rfl))) okS_nil)))))
theorem h__law_same (Z : Hd K mg) : FnAt P w K mg base 41 "_law_same" 2 .v F__law_same [] := by
  have b_all := Z.b_all
  have b_bool := Z.b_bool
  have b_int := Z.b_int
  have b_isinstance := Z.b_isinstance
  have b_len := Z.b_len
  have b_list := Z.b_list
  have b_range := Z.b_range
  have b_str := Z.b_str
  have b_tuple := Z.b_tuple
  suffices hk : ∀ k, FnAt P w K mg base (1 + k) "_law_same" 2 .v (G__law_same k) [] from hk 40
  obtain ⟨fd, f, hm, F⟩ := Z.f__law_same
  intro k
  induction k with
  | zero =>
    refine okDef0 (ps := ["got", "due"]) F hm rfl ?_
    intro kV doc pm an cdv ct us hl
    match us, hl with
    | [u0, u1], _ => rfl
  | succ k ih =>
    have h__law_same : FnAt P w K mg base (1 + k) "_law_same" 2 .v (G__law_same k) [] := ih
    refine okDef (df := D__law_same (G__law_same k)) (N := ["got", "due", "k"]) (ps := ["got", "due"]) F hm (by decide +kernel) rfl rfl ?_ ?_ ?_
    · intro kV doc pm an cdv ct us hl
      match us, hl with
      | [u0, u1], _ => rfl
    · exact fun c hc => (List.not_mem_nil hc).elim
    · intro cdv A outer s H E n0 hr
      have hN : (["got", "due", "k"] : List Str).Nodup := by decide +kernel
      exact (okS_cons (okS_if (Ok.te (ok_isN (okE_var rfl (by first | exact .inl rfl | exact .inr (.inl rfl) | exact .inr (.inr rfl)) rfl rfl) rfl)) (okS_cons (okS_ret (Ok.ve (ok_isN (okE_var rfl (by first | exact .inl rfl | exact .inr (.inl rfl) | exact .inr (.inr rfl)) rfl rfl) rfl))) okS_nil) okS_nil) (okS_cons (okS_if (Ok.te (Ok.plain (okE_isiT (ts := [.bool, .str]) rfl b_isinstance (okE_var rfl (by first | exact .inl rfl | exact .inr (.inl rfl) | exact .inr (.inr rfl)) rfl rfl) (okTy_cons (t := .bool) (pe_bltn rfl b_bool boot_bool rfl) (okTy_cons (t := .str) (pe_bltn rfl b_str boot_str rfl) okTy_nil rfl) rfl) (by decide) rfl rfl rfl) (fun _ => rfl))) (okS_cons (okS_ret (Ok.ve (OkW.ok (ok_and (ok_eq hr.units (okE_isi (n := "") (t := .bool) (p2 := ⟨0, 0, 0, 0⟩) rfl b_isinstance (okE_var rfl (by first | exact .inl rfl | exact .inr (.inl rfl) | exact .inr (.inr rfl)) rfl rfl) (pe_bltn rfl b_bool boot_bool rfl) rfl rfl rfl) (okE_isi (n := "") (t := .bool) (p2 := ⟨0, 0, 0, 0⟩) rfl b_isinstance (okE_var rfl (by first | exact .inl rfl | exact .inr (.inl rfl) | exact .inr (.inr rfl)) rfl rfl) (pe_bltn rfl b_bool boot_bool rfl) rfl rfl rfl) rfl) (ok_and (Ok.plain (okE_isiT (ts := [.bool, .str]) rfl b_isinstance (okE_var rfl (by first | exact .inl rfl | exact .inr (.inl rfl) | exact .inr (.inr rfl)) rfl rfl) (okTy_cons (t := .bool) (pe_bltn rfl b_bool boot_bool rfl) (okTy_cons (t := .str) (pe_bltn rfl b_str boot_str rfl) okTy_nil rfl) rfl) (by decide) rfl rfl rfl) (fun _ => rfl)) (ok_and1 (ok_eq hr.units (okE_var rfl (by first | exact .inl rfl | exact .inr (.inl rfl) | exact .inr (.inr rfl)) rfl rfl) (okE_var rfl (by first | exact .inl rfl | exact .inr (.inl rfl) | exact .inr (.inr rfl)) rfl rfl) rfl))))))) okS_nil) okS_nil) (okS_cons (okS_if (Ok.te (Ok.plain (okE_isi (n := "") (t := .int) (p2 := ⟨0, 0, 0, 0⟩) rfl b_isinstance (okE_var rfl (by first | exact .inl rfl | exact .inr (.inl rfl) | exact .inr (.inr rfl)) rfl rfl) (pe_bltn rfl b_int boot_int rfl) rfl rfl rfl) (fun _ => rfl))) (okS_cons (okS_ret (Ok.ve (OkW.ok (ok_and (Ok.plain (okE_isi (n := "") (t := .int) (p2 := ⟨0, 0, 0, 0⟩) rfl b_isinstance (okE_var rfl (by first | exact .inl rfl | exact .inr (.inl rfl) | exact .inr (.inr rfl)) rfl rfl) (pe_bltn rfl b_int boot_int rfl) rfl rfl rfl) (fun _ => rfl)) (ok_and (ok_not (Ok.plain (okE_isi (n := "") (t := .bool) (p2 := ⟨0, 0, 0, 0⟩) rfl b_isinstance (okE_var rfl (by first | exact .inl rfl | exact .inr (.inl rfl) | exact .inr (.inr rfl)) rfl rfl) (pe_bltn rfl b_bool boot_bool rfl) rfl rfl rfl) (fun _ => rfl))) (ok_and1 (ok_eq hr.units (okE_var rfl (by first | exact .inl rfl | exact .inr (.inl rfl) | exact .inr (.inr rfl)) rfl rfl) (okE_var rfl (by first | exact .inl rfl | exact .inr (.inl rfl) | exact .inr (.inr rfl)) rfl rfl) rfl))))))) okS_nil) okS_nil) (okS_cons (okS_if (Ok.te (OkW.ok (ok_or (ok_ne hr.units (okE_isi (n := "") (t := .list) (p2 := ⟨0, 0, 0, 0⟩) rfl b_isinstance (okE_var rfl (by first | exact .inl rfl | exact .inr (.inl rfl) | exact .inr (.inr rfl)) rfl rfl) (pe_bltn rfl b_list boot_list rfl) rfl rfl rfl) (okE_isi (n := "") (t := .list) (p2 := ⟨0, 0, 0, 0⟩) rfl b_isinstance (okE_var rfl (by first | exact .inl rfl | exact .inr (.inl rfl) | exact .inr (.inr rfl)) rfl rfl) (pe_bltn rfl b_list boot_list rfl) rfl rfl rfl) rfl) (ok_or1 (ok_ne hr.units (okE_isi (n := "") (t := .tuple) (p2 := ⟨0, 0, 0, 0⟩) rfl b_isinstance (okE_var rfl (by first | exact .inl rfl | exact .inr (.inl rfl) | exact .inr (.inr rfl)) rfl rfl) (pe_bltn rfl b_tuple boot_tuple rfl) rfl rfl rfl) (okE_isi (n := "") (t := .tuple) (p2 := ⟨0, 0, 0, 0⟩) rfl b_isinstance (okE_var rfl (by first | exact .inl rfl | exact .inr (.inl rfl) | exact .inr (.inr rfl)) rfl rfl) (pe_bltn rfl b_tuple boot_tuple rfl) rfl rfl rfl) rfl))))) (okS_cons (okS_ret okE_bl) okS_nil) okS_nil) (okS_cons (okS_ret (Ok.ve (OkW.ok (ok_and (ok_eq hr.units (okE_callB (id := "len") call_len prim_len rfl b_len (by decide +kernel) (okEs_cons (okE_var rfl (by first | exact .inl rfl | exact .inr (.inl rfl) | exact .inr (.inr rfl)) rfl rfl) okEs_nil rfl) (by decide) rfl rfl rfl) (okE_callB (id := "len") call_len prim_len rfl b_len (by decide +kernel) (okEs_cons (okE_var rfl (by first | exact .inl rfl | exact .inr (.inl rfl) | exact .inr (.inr rfl)) rfl rfl) okEs_nil rfl) (by decide) rfl rfl rfl) rfl) (ok_and1 (Ok.plain (okE_callB (id := "all") (cr_all rfl) prim_all rfl b_all (by decide +kernel) (okEs_cons (n2e (okN_lc (own := [("k", 2)]) rfl hN (okI_rng1 rfl b_range (okEs_cons (okE_callB (id := "len") call_len prim_len rfl b_len (by decide +kernel) (okEs_cons (okE_var rfl (by first | exact .inl rfl | exact .inr (.inl rfl) | exact .inr (.inr rfl)) rfl rfl) okEs_nil rfl) (by decide) rfl rfl rfl) okEs_nil rfl) rfl) (blkOk_by (show blkC ["got", "due", "k"] (defScope (top 42)) _ _ = true by decide +kernel)) (okG_nameB hN rfl rfl) (by decide) (fun Y hY => by obtain ⟨s, H, C, cl, fp, rfl⟩ := hY; exact okTs_nil) (fun Y hY => by obtain ⟨s, H, C, cl, fp, rfl⟩ := hY; exact (okE_call h__law_same (hr.mono (Nat.le_refl _)) rfl takes_W0 rfl (okEs_cons (okE_idx (okE_var rfl (by first | exact .inl rfl | exact .inr (.inl rfl) | exact .inr (.inr rfl)) rfl rfl) (okE_var rfl (by first | exact .inl rfl | exact .inr (.inl rfl) | exact .inr (.inr rfl)) rfl rfl) (fun _ _ => rfl)) (okEs_cons (okE_idx (okE_var rfl (by first | exact .inl rfl | exact .inr (.inl rfl) | exact .inr (.inr rfl)) rfl rfl) (okE_var rfl (by first | exact .inl rfl | exact .inr (.inl rfl) | exact .inr (.inr rfl)) rfl rfl) (fun _ _ => rfl)) okEs_nil rfl) rfl) rfl rfl rfl)) (fun _ => rfl))) okEs_nil rfl) (by decide) rfl rfl rfl) (fun _ => rfl))))))) okS_nil)))))
theorem h__law_divisor (Z : Hd K mg) : FnAt P w K mg base 1 "_law_divisor" 2 .v F__law_divisor [] := by
  have b_abs := Z.b_abs
  have b_int := Z.b_int
  have b_range := Z.b_range
  obtain ⟨fd, f, hm, F⟩ := Z.f__law_divisor
  refine okDef (df := D__law_divisor) (N := ["a", "b", "one", "other", "turn"]) (ps := ["a", "b"]) F hm (by decide +kernel) rfl rfl ?_ ?_ ?_
  · intro kV doc pm an cdv ct us hl
    match us, hl with
    | [u0, u1], _ => rfl
  · exact fun c hc => (List.not_mem_nil hc).elim
  · intro cdv A outer s H E n0 hr
    have hN : (["a", "b", "one", "other", "turn"] : List Str).Nodup := by decide +kernel
    exact (okS_cons (okS_par2 rfl hN rfl rfl (by decide) rfl rfl (okPk_v (okE_callB (id := "abs") call_abs prim_abs rfl b_abs (by decide +kernel) (okEs_cons (okE_var rfl (by first | exact .inl rfl | exact .inr (.inl rfl) | exact .inr (.inr rfl)) rfl rfl) okEs_nil rfl) (by decide) rfl rfl rfl) (okPk_v (okE_callB (id := "abs") call_abs prim_abs rfl b_abs (by decide +kernel) (okEs_cons (okE_var rfl (by first | exact .inl rfl | exact .inr (.inl rfl) | exact .inr (.inr rfl)) rfl rfl) okEs_nil rfl) (by decide) rfl rfl rfl) okPk_nil rfl) rfl) rfl rfl) (okS_cons (okS_for passes_X rfl (okI_rng1 rfl b_range (okEs_cons okE_int okEs_nil rfl) rfl) (okG_nameX hN rfl (by first | exact .inl rfl | exact .inr rfl) (.inl rfl)) (okS_cons (okS_if (Ok.te (ok_eq hr.units (okE_var rfl (by first | exact .inl rfl | exact .inr (.inl rfl) | exact .inr (.inr rfl)) rfl rfl) okE_int rfl)) (okS_cons okS_brk okS_nil) okS_nil) (okS_cons (okS_par2 rfl hN rfl rfl (by decide) rfl rfl (okPk_v (okE_var rfl (by first | exact .inl rfl | exact .inr (.inl rfl) | exact .inr (.inr rfl)) rfl rfl) (okPk_v (okE_mod (okE_callTy (T := "int") cr_intA prim_int rfl b_int (by decide +kernel) (okEs_cons (okE_var rfl (by first | exact .inl rfl | exact .inr (.inl rfl) | exact .inr (.inr rfl)) rfl rfl) okEs_nil rfl) (by decide) rfl rfl rfl) (okE_var rfl (by first | exact .inl rfl | exact .inr (.inl rfl) | exact .inr (.inr rfl)) rfl rfl)) okPk_nil rfl) rfl) rfl rfl) okS_nil)) (fun _ => rfl)) (okS_cons (okS_ret (okE_var rfl (by first | exact .inl rfl | exact .inr (.inl rfl) | exact .inr (.inr rfl)) rfl rfl)) okS_nil)))
theorem h__law_low (Z : Hd K mg) : FnAt P w K mg base 2 "_law_low" 2 .v F__law_low [] := by
  have h__law_divisor := h__law_divisor (P := P) (w := w) (base := base) Z
  obtain ⟨fd, f, hm, F⟩ := Z.f__law_low
  refine okDef (df := D__law_low) (N := ["top", "bottom", "by"]) (ps := ["top", "bottom"]) F hm (by decide +kernel) rfl rfl ?_ ?_ ?_
  · intro kV doc pm an cdv ct us hl
    match us, hl with
    | [u0, u1], _ => rfl
  · exact fun c hc => (List.not_mem_nil hc).elim
  · intro cdv A outer s H E n0 hr
    have hN : (["top", "bottom", "by"] : List Str).Nodup := by decide +kernel
    exact (okS_cons (okS_set (Ok.ve (ok_ife (ok_gt (okE_var rfl (by first | exact .inl rfl | exact .inr (.inl rfl) | exact .inr (.inr rfl)) rfl rfl) okE_int rfl) (Ok.plain (okE_call h__law_divisor (hr.mono (by decide)) rfl takes_X rfl (okEs_cons (okE_var rfl (by first | exact .inl rfl | exact .inr (.inl rfl) | exact .inr (.inr rfl)) rfl rfl) (okEs_cons (okE_var rfl (by first | exact .inl rfl | exact .inr (.inl rfl) | exact .inr (.inr rfl)) rfl rfl) okEs_nil rfl) rfl) rfl rfl rfl) (fun _ => rfl)) (Ok.plain (okE_sub okE_int (okE_call h__law_divisor (hr.mono (by decide)) rfl takes_X rfl (okEs_cons (okE_var rfl (by first | exact .inl rfl | exact .inr (.inl rfl) | exact .inr (.inr rfl)) rfl rfl) (okEs_cons (okE_var rfl (by first | exact .inl rfl | exact .inr (.inl rfl) | exact .inr (.inr rfl)) rfl rfl) okEs_nil rfl) rfl) rfl rfl rfl)) (fun _ => rfl)))) (okG_nameX hN rfl (by first | exact .inl rfl | exact .inr rfl) (.inl rfl)) rfl rfl rfl) (okS_cons (okS_ret (okE_tup (okEs_cons (okE_fdiv (okE_var rfl (by first | exact .inl rfl | exact .inr (.inl rfl) | exact .inr (.inr rfl)) rfl rfl) (okE_var rfl (by first | exact .inl rfl | exact .inr (.inl rfl) | exact .inr (.inr rfl)) rfl rfl)) (okEs_cons (okE_fdiv (okE_var rfl (by first | exact .inl rfl | exact .inr (.inl rfl) | exact .inr (.inr rfl)) rfl rfl) (okE_var rfl (by first | exact .inl rfl | exact .inr (.inl rfl) | exact .inr (.inr rfl)) rfl rfl)) okEs_nil rfl) rfl) (by decide))) okS_nil))
theorem h__law_add (Z : Hd K mg) : FnAt P w K mg base 3 "_law_add" 2 .v F__law_add [] := by
  have h__law_low := h__law_low (P := P) (w := w) (base := base) Z
  obtain ⟨fd, f, hm, F⟩ := Z.f__law_add
  refine okDef (df := D__law_add) (N := ["p", "q"]) (ps := ["p", "q"]) F hm (by decide +kernel) rfl rfl ?_ ?_ ?_
  · intro kV doc pm an cdv ct us hl
    match us, hl with
    | [u0, u1], _ => rfl
  · exact fun c hc => (List.not_mem_nil hc).elim
  · intro cdv A outer s H E n0 hr
    have hN : (["p", "q"] : List Str).Nodup := by decide +kernel
    exact (okS_cons (okS_ret (okE_call h__law_low (hr.mono (by decide)) rfl takes_X rfl (okEs_cons (n2e (okN_add (n2e (okN_mul (okE_idx (okE_var rfl (by first | exact .inl rfl | exact .inr (.inl rfl) | exact .inr (.inr rfl)) rfl rfl) okE_int (fun _ _ => rfl)) (okE_idx (okE_var rfl (by first | exact .inl rfl | exact .inr (.inl rfl) | exact .inr (.inr rfl)) rfl rfl) okE_int (fun _ _ => rfl)))) (n2e (okN_mul (okE_idx (okE_var rfl (by first | exact .inl rfl | exact .inr (.inl rfl) | exact .inr (.inr rfl)) rfl rfl) okE_int (fun _ _ => rfl)) (okE_idx (okE_var rfl (by first | exact .inl rfl | exact .inr (.inl rfl) | exact .inr (.inr rfl)) rfl rfl) okE_int (fun _ _ => rfl)))))) (okEs_cons (n2e (okN_mul (okE_idx (okE_var rfl (by first | exact .inl rfl | exact .inr (.inl rfl) | exact .inr (.inr rfl)) rfl rfl) okE_int (fun _ _ => rfl)) (okE_idx (okE_var rfl (by first | exact .inl rfl | exact .inr (.inl rfl) | exact .inr (.inr rfl)) rfl rfl) okE_int (fun _ _ => rfl)))) okEs_nil rfl) rfl) rfl rfl rfl)) okS_nil)
theorem h__law_show (Z : Hd K mg) : FnAt P w K mg base 1 "_law_show" 1 .v F__law_show [] := by
  have b_str := Z.b_str
  obtain ⟨fd, f, hm, F⟩ := Z.f__law_show
  refine okDef (df := D__law_show) (N := ["number"]) (ps := ["number"]) F hm (by decide +kernel) rfl rfl ?_ ?_ ?_
  · intro kV doc pm an cdv ct us hl
    match us, hl with
    | [u0], _ => rfl
  · exact fun c hc => (List.not_mem_nil hc).elim
  · intro cdv A outer s H E n0 hr
    have hN : (["number"] : List Str).Nodup := by decide +kernel
    exact (okS_cons (okS_ret (Ok.ve (ok_ife (ok_eq hr.units (okE_idx (okE_var rfl (by first | exact .inl rfl | exact .inr (.inl rfl) | exact .inr (.inr rfl)) rfl rfl) okE_int (fun _ _ => rfl)) okE_int rfl) (Ok.plain (okE_callTy (T := "str") call_str_int prim_str rfl b_str (by decide +kernel) (okEs_cons (okE_idx (okE_var rfl (by first | exact .inl rfl | exact .inr (.inl rfl) | exact .inr (.inr rfl)) rfl rfl) okE_int (fun _ _ => rfl)) okEs_nil rfl) (by decide) rfl rfl rfl) (fun _ => rfl)) (Ok.plain (n2e (okN_add (n2e (okN_add (okE_callTy (T := "str") call_str_int prim_str rfl b_str (by decide +kernel) (okEs_cons (okE_idx (okE_var rfl (by first | exact .inl rfl | exact .inr (.inl rfl) | exact .inr (.inr rfl)) rfl rfl) okE_int (fun _ _ => rfl)) okEs_nil rfl) (by decide) rfl rfl rfl) (okE_str (by decide +kernel)))) (okE_callTy (T := "str") call_str_int prim_str rfl b_str (by decide +kernel) (okEs_cons (okE_idx (okE_var rfl (by first | exact .inl rfl | exact .inr (.inl rfl) | exact .inr (.inr rfl)) rfl rfl) okE_int (fun _ _ => rfl)) okEs_nil rfl) (by decide) rfl rfl rfl))) (fun _ => rfl))))) okS_nil)
theorem h__law_summed (Z : Hd K mg) : FnAt P w K mg base 4 "_law_summed" 1 .v F__law_summed [] := by
  have h__law_add := h__law_add (P := P) (w := w) (base := base) Z
  obtain ⟨fd, f, hm, F⟩ := Z.f__law_summed
  refine okDef (df := D__law_summed) (N := ["numbers", "total", "own"]) (ps := ["numbers"]) F hm (by decide +kernel) rfl rfl ?_ ?_ ?_
  · intro kV doc pm an cdv ct us hl
    match us, hl with
    | [u0], _ => rfl
  · exact fun c hc => (List.not_mem_nil hc).elim
  · intro cdv A outer s H E n0 hr
    have hN : (["numbers", "total", "own"] : List Str).Nodup := by decide +kernel
    exact (okS_cons (okS_set (okE_tup (okEs_cons okE_int (okEs_cons okE_int okEs_nil rfl) rfl) (by decide)) (okG_nameX hN rfl (by first | exact .inl rfl | exact .inr rfl) (.inl rfl)) rfl rfl rfl) (okS_cons (okS_for passes_X rfl (okI_of (okE_var rfl (by first | exact .inl rfl | exact .inr (.inl rfl) | exact .inr (.inr rfl)) rfl rfl)) (okG_nameX hN rfl (by first | exact .inl rfl | exact .inr rfl) (.inl rfl)) (okS_cons (okS_set (okE_call h__law_add (hr.mono (by decide)) rfl takes_X rfl (okEs_cons (okE_var rfl (by first | exact .inl rfl | exact .inr (.inl rfl) | exact .inr (.inr rfl)) rfl rfl) (okEs_cons (okE_var rfl (by first | exact .inl rfl | exact .inr (.inl rfl) | exact .inr (.inr rfl)) rfl rfl) okEs_nil rfl) rfl) rfl rfl rfl) (okG_nameX hN rfl (by first | exact .inl rfl | exact .inr rfl) (.inl rfl)) rfl rfl rfl) okS_nil) (fun _ => rfl)) (okS_cons (okS_ret (okE_var rfl (by first | exact .inl rfl | exact .inr (.inl rfl) | exact .inr (.inr rfl)) rfl rfl)) okS_nil)))
theorem h__law_numbers_text (Z : Hd K mg) : FnAt P w K mg base 2 "_law_numbers_text" 1 .v F__law_numbers_text [] := by
  have h__law_show := h__law_show (P := P) (w := w) (base := base) Z
  obtain ⟨fd, f, hm, F⟩ := Z.f__law_numbers_text
  refine okDef (df := D__law_numbers_text) (N := ["numbers", "own"]) (ps := ["numbers"]) F hm (by decide +kernel) rfl rfl ?_ ?_ ?_
  · intro kV doc pm an cdv ct us hl
    match us, hl with
    | [u0], _ => rfl
  · exact fun c hc => (List.not_mem_nil hc).elim
  · intro cdv A outer s H E n0 hr
    have hN : (["numbers", "own"] : List Str).Nodup := by decide +kernel
    exact (okS_cons (okS_ret (okE_join (okE_str (by decide +kernel)) (n2e (okN_lc (own := [("own", 1)]) rfl hN (okI_of (okE_var rfl (by first | exact .inl rfl | exact .inr (.inl rfl) | exact .inr (.inr rfl)) rfl rfl)) (blkOk_by (show blkC ["numbers", "own"] (defScope (top 48)) _ _ = true by decide +kernel)) (okG_nameB hN rfl rfl) (by decide) (fun Y hY => by obtain ⟨s, H, C, cl, fp, rfl⟩ := hY; exact okTs_nil) (fun Y hY => by obtain ⟨s, H, C, cl, fp, rfl⟩ := hY; exact (okE_call h__law_show (hr.mono (by decide)) rfl takes_W0 rfl (okEs_cons (okE_var rfl (by first | exact .inl rfl | exact .inr (.inl rfl) | exact .inr (.inr rfl)) rfl rfl) okEs_nil rfl) rfl rfl rfl)) (fun _ => rfl))) rfl rfl rfl)) okS_nil)
theorem h__law_natural (Z : Hd K mg) : FnAt P w K mg base 1 "_law_natural" 1 .v F__law_natural [] := by
  have b_any := Z.b_any
  have b_int := Z.b_int
  have b_len := Z.b_len
  obtain ⟨fd, f, hm, F⟩ := Z.f__law_natural
  refine okDef (df := D__law_natural) (N := ["text", "sign"]) (ps := ["text"]) F hm (by decide +kernel) rfl rfl ?_ ?_ ?_
  · intro kV doc pm an cdv ct us hl
    match us, hl with
    | [u0], _ => rfl
  · exact fun c hc => (List.not_mem_nil hc).elim
  · intro cdv A outer s H E n0 hr
    have hN : (["text", "sign"] : List Str).Nodup := by decide +kernel
    exact (okS_cons (okS_if (Ok.te (OkW.ok (ok_or (ok_eq hr.units (okE_var rfl (by first | exact .inl rfl | exact .inr (.inl rfl) | exact .inr (.inr rfl)) rfl rfl) (okE_str (by decide +kernel)) rfl) (ok_or (ok_gt (okE_callB (id := "len") call_len prim_len rfl b_len (by decide +kernel) (okEs_cons (okE_var rfl (by first | exact .inl rfl | exact .inr (.inl rfl) | exact .inr (.inr rfl)) rfl rfl) okEs_nil rfl) (by decide) rfl rfl rfl) okE_int rfl) (ok_or (Ok.plain (okE_callB (id := "any") (cr_any rfl) prim_any rfl b_any (by decide +kernel) (okEs_cons (n2e (okN_lc (own := [("sign", 1)]) rfl hN (okI_of (okE_var rfl (by first | exact .inl rfl | exact .inr (.inl rfl) | exact .inr (.inr rfl)) rfl rfl)) (blkOk_by (show blkC ["text", "sign"] (defScope (top 49)) _ _ = true by decide +kernel)) (okG_nameB hN rfl rfl) (by decide) (fun Y hY => by obtain ⟨s, H, C, cl, fp, rfl⟩ := hY; exact okTs_nil) (fun Y hY => by obtain ⟨s, H, C, cl, fp, rfl⟩ := hY; exact (Ok.ve (ok_notin (room65 hr) (okE_var rfl (by first | exact .inl rfl | exact .inr (.inl rfl) | exact .inr (.inr rfl)) rfl rfl) (okE_str (by decide +kernel)) rfl))) (fun _ => rfl))) okEs_nil rfl) (by decide) rfl rfl rfl) (fun _ => rfl)) (ok_or1 (OkW.ok (ok_and (ok_eq hr.units (okE_idx (okE_var rfl (by first | exact .inl rfl | exact .inr (.inl rfl) | exact .inr (.inr rfl)) rfl rfl) okE_int (fun _ _ => rfl)) (okE_str (by decide +kernel)) rfl) (ok_and1 (ok_ne hr.units (okE_var rfl (by first | exact .inl rfl | exact .inr (.inl rfl) | exact .inr (.inr rfl)) rfl rfl) (okE_str (by decide +kernel)) rfl)))))))))) (okS_cons (okS_ret (n2e (okN_lst okEs_nil (by decide)))) okS_nil) okS_nil) (okS_cons (okS_ret (n2e (okN_lst (okEs_cons (okE_callTy (T := "int") call_int_str prim_intS rfl b_int (by decide +kernel) (okEs_cons (okE_var rfl (by first | exact .inl rfl | exact .inr (.inl rfl) | exact .inr (.inr rfl)) rfl rfl) okEs_nil rfl) (by decide) rfl rfl rfl) okEs_nil rfl) (by decide)))) okS_nil))
theorem h__law_part_in (Z : Hd K mg) : FnAt P w K mg base 2 "_law_part_in" 1 .v F__law_part_in [] := by
  have b_len := Z.b_len
  have h__law_divisor := h__law_divisor (P := P) (w := w) (base := base) Z
  have h__law_natural := h__law_natural (P := P) (w := w) (base := base) Z
  obtain ⟨fd, f, hm, F⟩ := Z.f__law_part_in
  refine okDef (df := D__law_part_in) (N := ["text", "parts", "own", "part"]) (ps := ["text"]) F hm (by decide +kernel) rfl rfl ?_ ?_ ?_
  · intro kV doc pm an cdv ct us hl
    match us, hl with
    | [u0], _ => rfl
  · exact fun c hc => (List.not_mem_nil hc).elim
  · intro cdv A outer s H E n0 hr
    have hN : (["text", "parts", "own", "part"] : List Str).Nodup := by decide +kernel
    exact (okS_cons (okS_set (n2e (okN_split (okE_var rfl (by first | exact .inl rfl | exact .inr (.inl rfl) | exact .inr (.inr rfl)) rfl rfl) (okE_str (by decide +kernel)) rfl rfl rfl)) (okG_nameX hN rfl (by first | exact .inl rfl | exact .inr rfl) (.inl rfl)) rfl rfl rfl) (okS_cons (okS_setByN (tAsg_lc (own := [("part", 3)]) rfl hN rfl rfl rfl (okI_of (okE_var rfl (by first | exact .inl rfl | exact .inr (.inl rfl) | exact .inr (.inr rfl)) rfl rfl)) (blkOk_by (show blkC ["text", "parts", "own", "part"] (defScope (top 50)) _ _ = true by decide +kernel)) (okG_nameB hN rfl rfl) (by decide) (fun Y hY => by obtain ⟨s, H, C, cl, fp, rfl⟩ := hY; exact okTs_nil) (fun Y hY => by obtain ⟨s, H, C, cl, fp, rfl⟩ := hY; exact (okE_call h__law_natural (hr.mono (by decide)) rfl takes_W0 rfl (okEs_cons (okE_var rfl (by first | exact .inl rfl | exact .inr (.inl rfl) | exact .inr (.inr rfl)) rfl rfl) okEs_nil rfl) rfl rfl rfl)) (fun _ => rfl))) (okS_cons (okS_if (Ok.te (OkW.ok (ok_or (ok_in (room65 hr) (n2e (okN_lst okEs_nil (by decide))) (okE_var rfl (by first | exact .inl rfl | exact .inr (.inl rfl) | exact .inr (.inr rfl)) rfl rfl) rfl) (ok_or1 (ok_gt (okE_callB (id := "len") call_len prim_len rfl b_len (by decide +kernel) (okEs_cons (okE_var rfl (by first | exact .inl rfl | exact .inr (.inl rfl) | exact .inr (.inr rfl)) rfl rfl) okEs_nil rfl) (by decide) rfl rfl rfl) okE_int rfl))))) (okS_cons (okS_ret (n2e (okN_lst okEs_nil (by decide)))) okS_nil) okS_nil) (okS_cons (okS_if (Ok.te (ok_eq hr.units (okE_callB (id := "len") call_len prim_len rfl b_len (by decide +kernel) (okEs_cons (okE_var rfl (by first | exact .inl rfl | exact .inr (.inl rfl) | exact .inr (.inr rfl)) rfl rfl) okEs_nil rfl) (by decide) rfl rfl rfl) okE_int rfl)) (okS_cons (okS_ret (n2e (okN_lst (okEs_cons (okE_tup (okEs_cons (okE_idx (okE_idx (okE_var rfl (by first | exact .inl rfl | exact .inr (.inl rfl) | exact .inr (.inr rfl)) rfl rfl) okE_int (fun _ _ => rfl)) okE_int (fun _ _ => rfl)) (okEs_cons okE_int okEs_nil rfl) rfl) (by decide)) okEs_nil rfl) (by decide)))) okS_nil) okS_nil) (okS_cons (okS_ret (Ok.ve (ok_ife (OkW.ok (ok_and (ok_gt (okE_idx (okE_idx (okE_var rfl (by first | exact .inl rfl | exact .inr (.inl rfl) | exact .inr (.inr rfl)) rfl rfl) okE_int (fun _ _ => rfl)) okE_int (fun _ _ => rfl)) okE_int rfl) (ok_and1 (ok_eq hr.units (okE_call h__law_divisor (hr.mono (by decide)) rfl takes_X rfl (okEs_cons (okE_idx (okE_idx (okE_var rfl (by first | exact .inl rfl | exact .inr (.inl rfl) | exact .inr (.inr rfl)) rfl rfl) okE_int (fun _ _ => rfl)) okE_int (fun _ _ => rfl)) (okEs_cons (okE_idx (okE_idx (okE_var rfl (by first | exact .inl rfl | exact .inr (.inl rfl) | exact .inr (.inr rfl)) rfl rfl) okE_int (fun _ _ => rfl)) okE_int (fun _ _ => rfl)) okEs_nil rfl) rfl) rfl rfl rfl) okE_int rfl)))) (Ok.plain (n2e (okN_lst (okEs_cons (okE_tup (okEs_cons (okE_idx (okE_idx (okE_var rfl (by first | exact .inl rfl | exact .inr (.inl rfl) | exact .inr (.inr rfl)) rfl rfl) okE_int (fun _ _ => rfl)) okE_int (fun _ _ => rfl)) (okEs_cons (okE_idx (okE_idx (okE_var rfl (by first | exact .inl rfl | exact .inr (.inl rfl) | exact .inr (.inr rfl)) rfl rfl) okE_int (fun _ _ => rfl)) okE_int (fun _ _ => rfl)) okEs_nil rfl) rfl) (by decide)) okEs_nil rfl) (by decide))) (fun _ => rfl)) (Ok.plain (n2e (okN_lst okEs_nil (by decide))) (fun _ => rfl))))) okS_nil)))))
theorem h__law_all_in (Z : Hd K mg) : FnAt P w K mg base 1 "_law_all_in" 1 .v F__law_all_in [] := by
  have b_tuple := Z.b_tuple
  obtain ⟨fd, f, hm, F⟩ := Z.f__law_all_in
  refine okDef (df := D__law_all_in) (N := ["found", "own"]) (ps := ["found"]) F hm (by decide +kernel) rfl rfl ?_ ?_ ?_
  · intro kV doc pm an cdv ct us hl
    match us, hl with
    | [u0], _ => rfl
  · exact fun c hc => (List.not_mem_nil hc).elim
  · intro cdv A outer s H E n0 hr
    have hN : (["found", "own"] : List Str).Nodup := by decide +kernel
    exact (okS_cons (okS_ret (Ok.ve (ok_ife (ok_in (room65 hr) (n2e (okN_lst okEs_nil (by decide))) (okE_var rfl (by first | exact .inl rfl | exact .inr (.inl rfl) | exact .inr (.inr rfl)) rfl rfl) rfl) (Ok.plain (n2e (okN_lst okEs_nil (by decide))) (fun _ => rfl)) (Ok.plain (n2e (okN_lst (okEs_cons (okE_callTy (T := "tuple") call_tuple_of prim_tuple rfl b_tuple (by decide +kernel) (okEs_cons (n2e (okN_lc (own := [("own", 1)]) rfl hN (okI_of (okE_var rfl (by first | exact .inl rfl | exact .inr (.inl rfl) | exact .inr (.inr rfl)) rfl rfl)) (blkOk_by (show blkC ["found", "own"] (defScope (top 51)) _ _ = true by decide +kernel)) (okG_nameB hN rfl rfl) (by decide) (fun Y hY => by obtain ⟨s, H, C, cl, fp, rfl⟩ := hY; exact okTs_nil) (fun Y hY => by obtain ⟨s, H, C, cl, fp, rfl⟩ := hY; exact (okE_idx (okE_var rfl (by first | exact .inl rfl | exact .inr (.inl rfl) | exact .inr (.inr rfl)) rfl rfl) okE_int (fun _ _ => rfl))) (fun _ => rfl))) okEs_nil rfl) (by decide) rfl rfl rfl) okEs_nil rfl) (by decide))) (fun _ => rfl))))) okS_nil)
theorem h__law_bent_lines (Z : Hd K mg) : FnAt P w K mg base 2 "_law_bent_lines" 2 .v F__law_bent_lines [] := by
  have b_len := Z.b_len
  have b_range := Z.b_range
  have h__law_take := h__law_take (P := P) (w := w) (base := base) Z
  obtain ⟨fd, f, hm, F⟩ := Z.f__law_bent_lines
  refine okDef (df := D__law_bent_lines) (N := ["pot", "text", "turn", "way", "spot", "sign", "lines", "here", "there", "words", "word"]) (ps := ["pot", "text"]) F hm (by decide +kernel) rfl rfl ?_ ?_ ?_
  · intro kV doc pm an cdv ct us hl
    match us, hl with
    | [u0, u1], _ => rfl
  · exact fun c hc => (List.not_mem_nil hc).elim
  · intro cdv A outer s H E n0 hr
    have hN : (["pot", "text", "turn", "way", "spot", "sign", "lines", "here", "there", "words", "word"] : List Str).Nodup := by decide +kernel
    exact (okS_cons (okS_for passes_X rfl (okI_rng1 rfl b_range (okEs_cons (okE_idx (n2e (okN_lst (okEs_cons okE_int (okEs_cons okE_int (okEs_cons okE_int (okEs_cons okE_int (okEs_cons okE_int okEs_nil rfl) rfl) rfl) rfl) rfl) (by decide))) (okE_call h__law_take (hr.mono (by decide)) rfl takes_X rfl (okEs_cons (okE_var rfl (by first | exact .inl rfl | exact .inr (.inl rfl) | exact .inr (.inr rfl)) rfl rfl) (okEs_cons okE_int okEs_nil rfl) rfl) rfl rfl rfl) (fun _ _ => rfl)) okEs_nil rfl) rfl) (okG_nameX hN rfl (by first | exact .inl rfl | exact .inr rfl) (.inl rfl)) (okS_cons (okS_par2 rfl hN rfl rfl (by decide) rfl rfl (okPk_v (okE_call h__law_take (hr.mono (by decide)) rfl takes_X rfl (okEs_cons (okE_var rfl (by first | exact .inl rfl | exact .inr (.inl rfl) | exact .inr (.inr rfl)) rfl rfl) (okEs_cons okE_int okEs_nil rfl) rfl) rfl rfl rfl) (okPk_v (okE_call h__law_take (hr.mono (by decide)) rfl takes_X rfl (okEs_cons (okE_var rfl (by first | exact .inl rfl | exact .inr (.inl rfl) | exact .inr (.inr rfl)) rfl rfl) (okEs_cons (n2e (okN_add (okE_callB (id := "len") call_len prim_len rfl b_len (by decide +kernel) (okEs_cons (okE_var rfl (by first | exact .inl rfl | exact .inr (.inl rfl) | exact .inr (.inr rfl)) rfl rfl) okEs_nil rfl) (by decide) rfl rfl rfl) okE_int)) okEs_nil rfl) rfl) rfl rfl rfl) okPk_nil rfl) rfl) rfl rfl) (okS_cons (okS_par2 rfl hN rfl rfl (by decide) rfl rfl (okPk_v (okE_idx (okE_str (by decide +kernel)) (okE_call h__law_take (hr.mono (by decide)) rfl takes_X rfl (okEs_cons (okE_var rfl (by first | exact .inl rfl | exact .inr (.inl rfl) | exact .inr (.inr rfl)) rfl rfl) (okEs_cons okE_int okEs_nil rfl) rfl) rfl rfl rfl) (fun _ _ => rfl)) (okPk_n (okN_split (okE_var rfl (by first | exact .inl rfl | exact .inr (.inl rfl) | exact .inr (.inr rfl)) rfl rfl) (okE_str (by decide +kernel)) rfl rfl rfl) okPk_nil rfl (by decide)) rfl) rfl rfl) (okS_cons (okS_par2 rfl hN rfl rfl (by decide) rfl rfl (okPk_v (okE_call h__law_take (hr.mono (by decide)) rfl takes_X rfl (okEs_cons (okE_var rfl (by first | exact .inl rfl | exact .inr (.inl rfl) | exact .inr (.inr rfl)) rfl rfl) (okEs_cons (okE_callB (id := "len") call_len prim_len rfl b_len (by decide +kernel) (okEs_cons (okE_var rfl (by first | exact .inl rfl | exact .inr (.inl rfl) | exact .inr (.inr rfl)) rfl rfl) okEs_nil rfl) (by decide) rfl rfl rfl) okEs_nil rfl) rfl) rfl rfl rfl) (okPk_v (okE_call h__law_take (hr.mono (by decide)) rfl takes_X rfl (okEs_cons (okE_var rfl (by first | exact .inl rfl | exact .inr (.inl rfl) | exact .inr (.inr rfl)) rfl rfl) (okEs_cons (okE_callB (id := "len") call_len prim_len rfl b_len (by decide +kernel) (okEs_cons (okE_var rfl (by first | exact .inl rfl | exact .inr (.inl rfl) | exact .inr (.inr rfl)) rfl rfl) okEs_nil rfl) (by decide) rfl rfl rfl) okEs_nil rfl) rfl) rfl rfl rfl) okPk_nil rfl) rfl) rfl rfl) (okS_cons (okS_if (Ok.te (ok_lt (okE_var rfl (by first | exact .inl rfl | exact .inr (.inl rfl) | exact .inr (.inr rfl)) rfl rfl) okE_int rfl)) (okS_cons (okS_set (n2e (okN_add (n2e (okN_add (n2e (okN_slHi (okE_var rfl (by first | exact .inl rfl | exact .inr (.inl rfl) | exact .inr (.inr rfl)) rfl rfl) (okE_var rfl (by first | exact .inl rfl | exact .inr (.inl rfl) | exact .inr (.inr rfl)) rfl rfl))) (okE_var rfl (by first | exact .inl rfl | exact .inr (.inl rfl) | exact .inr (.inr rfl)) rfl rfl))) (n2e (okN_slLo (okE_var rfl (by first | exact .inl rfl | exact .inr (.inl rfl) | exact .inr (.inr rfl)) rfl rfl) (okE_var rfl (by first | exact .inl rfl | exact .inr (.inl rfl) | exact .inr (.inr rfl)) rfl rfl))))) (okG_nameX hN rfl (by first | exact .inl rfl | exact .inr rfl) (.inl rfl)) rfl rfl rfl) okS_nil) (okS_cons (okS_if (Ok.te (ok_eq hr.units (okE_var rfl (by first | exact .inl rfl | exact .inr (.inl rfl) | exact .inr (.inr rfl)) rfl rfl) okE_int rfl)) (okS_cons (okS_set (n2e (okN_add (n2e (okN_slHi (okE_var rfl (by first | exact .inl rfl | exact .inr (.inl rfl) | exact .inr (.inr rfl)) rfl rfl) (okE_var rfl (by first | exact .inl rfl | exact .inr (.inl rfl) | exact .inr (.inr rfl)) rfl rfl))) (n2e (okN_slLo (okE_var rfl (by first | exact .inl rfl | exact .inr (.inl rfl) | exact .inr (.inr rfl)) rfl rfl) (n2e (okN_add (okE_var rfl (by first | exact .inl rfl | exact .inr (.inl rfl) | exact .inr (.inr rfl)) rfl rfl) okE_int)))))) (okG_nameX hN rfl (by first | exact .inl rfl | exact .inr rfl) (.inl rfl)) rfl rfl rfl) okS_nil) (okS_cons (okS_if (Ok.te (ok_eq hr.units (okE_var rfl (by first | exact .inl rfl | exact .inr (.inl rfl) | exact .inr (.inr rfl)) rfl rfl) okE_int rfl)) (okS_cons (okS_set (n2e (okN_add (n2e (okN_add (n2e (okN_slHi (okE_var rfl (by first | exact .inl rfl | exact .inr (.inl rfl) | exact .inr (.inr rfl)) rfl rfl) (okE_var rfl (by first | exact .inl rfl | exact .inr (.inl rfl) | exact .inr (.inr rfl)) rfl rfl))) (okE_var rfl (by first | exact .inl rfl | exact .inr (.inl rfl) | exact .inr (.inr rfl)) rfl rfl))) (n2e (okN_slLo (okE_var rfl (by first | exact .inl rfl | exact .inr (.inl rfl) | exact .inr (.inr rfl)) rfl rfl) (n2e (okN_add (okE_var rfl (by first | exact .inl rfl | exact .inr (.inl rfl) | exact .inr (.inr rfl)) rfl rfl) okE_int)))))) (okG_nameX hN rfl (by first | exact .inl rfl | exact .inr rfl) (.inl rfl)) rfl rfl rfl) okS_nil) (okS_cons (okS_if (Ok.te (ok_eq hr.units (okE_var rfl (by first | exact .inl rfl | exact .inr (.inl rfl) | exact .inr (.inr rfl)) rfl rfl) okE_int rfl)) (okS_cons (okS_set (n2e (okN_split (okE_var rfl (by first | exact .inl rfl | exact .inr (.inl rfl) | exact .inr (.inr rfl)) rfl rfl) (okE_str (by decide +kernel)) rfl rfl rfl)) (okG_nameX hN rfl (by first | exact .inl rfl | exact .inr rfl) (.inl rfl)) rfl rfl rfl) (okS_cons (okS_set (okE_call h__law_take (hr.mono (by decide)) rfl takes_X rfl (okEs_cons (okE_var rfl (by first | exact .inl rfl | exact .inr (.inl rfl) | exact .inr (.inr rfl)) rfl rfl) (okEs_cons (okE_callB (id := "len") call_len prim_len rfl b_len (by decide +kernel) (okEs_cons (okE_var rfl (by first | exact .inl rfl | exact .inr (.inl rfl) | exact .inr (.inr rfl)) rfl rfl) okEs_nil rfl) (by decide) rfl rfl rfl) okEs_nil rfl) rfl) rfl rfl rfl) (okG_nameX hN rfl (by first | exact .inl rfl | exact .inr rfl) (.inl rfl)) rfl rfl rfl) (okS_cons (okS_set (Ok.ve (ok_ife (ok_eq hr.units (okE_call h__law_take (hr.mono (by decide)) rfl takes_X rfl (okEs_cons (okE_var rfl (by first | exact .inl rfl | exact .inr (.inl rfl) | exact .inr (.inr rfl)) rfl rfl) (okEs_cons okE_int okEs_nil rfl) rfl) rfl rfl rfl) okE_int rfl) (Ok.plain (okE_join (okE_str (by decide +kernel)) (n2e (okN_add (n2e (okN_slHi (okE_var rfl (by first | exact .inl rfl | exact .inr (.inl rfl) | exact .inr (.inr rfl)) rfl rfl) (okE_var rfl (by first | exact .inl rfl | exact .inr (.inl rfl) | exact .inr (.inr rfl)) rfl rfl))) (n2e (okN_slLo (okE_var rfl (by first | exact .inl rfl | exact .inr (.inl rfl) | exact .inr (.inr rfl)) rfl rfl) (n2e (okN_add (okE_var rfl (by first | exact .inl rfl | exact .inr (.inl rfl) | exact .inr (.inr rfl)) rfl rfl) okE_int)))))) rfl rfl rfl) (fun _ => rfl)) (Ok.plain (okE_join (okE_str (by decide +kernel)) (n2e (okN_add (n2e (okN_add (n2e (okN_slHi (okE_var rfl (by first | exact .inl rfl | exact .inr (.inl rfl) | exact .inr (.inr rfl)) rfl rfl) (okE_var rfl (by first | exact .inl rfl | exact .inr (.inl rfl) | exact .inr (.inr rfl)) rfl rfl))) (n2e (okN_slLH (okE_var rfl (by first | exact .inl rfl | exact .inr (.inl rfl) | exact .inr (.inr rfl)) rfl rfl) (okE_var rfl (by first | exact .inl rfl | exact .inr (.inl rfl) | exact .inr (.inr rfl)) rfl rfl) (n2e (okN_add (okE_var rfl (by first | exact .inl rfl | exact .inr (.inl rfl) | exact .inr (.inr rfl)) rfl rfl) okE_int)))))) (n2e (okN_slLo (okE_var rfl (by first | exact .inl rfl | exact .inr (.inl rfl) | exact .inr (.inr rfl)) rfl rfl) (okE_var rfl (by first | exact .inl rfl | exact .inr (.inl rfl) | exact .inr (.inr rfl)) rfl rfl))))) rfl rfl rfl) (fun _ => rfl)))) (okG_nameX hN rfl (by first | exact .inl rfl | exact .inr rfl) (.inl rfl)) rfl rfl rfl) okS_nil))) (okS_cons (okS_if (Ok.te (ok_eq hr.units (okE_var rfl (by first | exact .inl rfl | exact .inr (.inl rfl) | exact .inr (.inr rfl)) rfl rfl) okE_int rfl)) (okS_cons (okS_swapL (okE_var rfl (by first | exact .inl rfl | exact .inr (.inl rfl) | exact .inr (.inr rfl)) rfl rfl) (okE_var rfl (by first | exact .inl rfl | exact .inr (.inl rfl) | exact .inr (.inr rfl)) rfl rfl) (okE_var rfl (by first | exact .inl rfl | exact .inr (.inl rfl) | exact .inr (.inr rfl)) rfl rfl) (okE_var rfl (by first | exact .inl rfl | exact .inr (.inl rfl) | exact .inr (.inr rfl)) rfl rfl) (okE_idx (okE_var rfl (by first | exact .inl rfl | exact .inr (.inl rfl) | exact .inr (.inr rfl)) rfl rfl) (okE_var rfl (by first | exact .inl rfl | exact .inr (.inl rfl) | exact .inr (.inr rfl)) rfl rfl) (fun _ _ => rfl)) (okE_idx (okE_var rfl (by first | exact .inl rfl | exact .inr (.inl rfl) | exact .inr (.inr rfl)) rfl rfl) (okE_var rfl (by first | exact .inl rfl | exact .inr (.inl rfl) | exact .inr (.inr rfl)) rfl rfl) (fun _ _ => rfl)) rfl rfl rfl rfl rfl rfl rfl rfl rfl rfl (fun _ => rfl) (fun _ => rfl)) (okS_cons (okS_set (okE_join (okE_str (by decide +kernel)) (okE_var rfl (by first | exact .inl rfl | exact .inr (.inl rfl) | exact .inr (.inr rfl)) rfl rfl) rfl rfl rfl) (okG_nameX hN rfl (by first | exact .inl rfl | exact .inr rfl) (.inl rfl)) rfl rfl rfl) okS_nil)) (okS_cons (okS_if (Ok.te (ok_lt (okE_var rfl (by first | exact .inl rfl | exact .inr (.inl rfl) | exact .inr (.inr rfl)) rfl rfl) okE_int rfl)) (okS_cons (okS_set (okE_join (okE_str (by decide +kernel)) (n2e (okN_add (n2e (okN_add (n2e (okN_slHi (okE_var rfl (by first | exact .inl rfl | exact .inr (.inl rfl) | exact .inr (.inr rfl)) rfl rfl) (okE_var rfl (by first | exact .inl rfl | exact .inr (.inl rfl) | exact .inr (.inr rfl)) rfl rfl))) (Ok.ve (ok_ife (ok_eq hr.units (okE_var rfl (by first | exact .inl rfl | exact .inr (.inl rfl) | exact .inr (.inr rfl)) rfl rfl) okE_int rfl) (Ok.plain (n2e (okN_mul (n2e (okN_slLH (okE_var rfl (by first | exact .inl rfl | exact .inr (.inl rfl) | exact .inr (.inr rfl)) rfl rfl) (okE_var rfl (by first | exact .inl rfl | exact .inr (.inl rfl) | exact .inr (.inr rfl)) rfl rfl) (n2e (okN_add (okE_var rfl (by first | exact .inl rfl | exact .inr (.inl rfl) | exact .inr (.inr rfl)) rfl rfl) okE_int)))) okE_int)) (fun _ => rfl)) (Ok.plain (n2e (okN_lst okEs_nil (by decide))) (fun _ => rfl)))))) (n2e (okN_slLo (okE_var rfl (by first | exact .inl rfl | exact .inr (.inl rfl) | exact .inr (.inr rfl)) rfl rfl) (n2e (okN_add (okE_var rfl (by first | exact .inl rfl | exact .inr (.inl rfl) | exact .inr (.inr rfl)) rfl rfl) okE_int)))))) rfl rfl rfl) (okG_nameX hN rfl (by first | exact .inl rfl | exact .inr rfl) (.inl rfl)) rfl rfl rfl) okS_nil) (okS_cons (okS_set (n2e (okN_add (okE_var rfl (by first | exact .inl rfl | exact .inr (.inl rfl) | exact .inr (.inr rfl)) rfl rfl) (okE_idx (n2e (okN_lst (okEs_cons (okE_str (by decide +kernel)) (okEs_cons (okE_str (by decide +kernel)) (okEs_cons (okE_str (by decide +kernel)) (okEs_cons (okE_str (by decide +kernel)) okEs_nil rfl) rfl) rfl) rfl) (by decide))) (okE_call h__law_take (hr.mono (by decide)) rfl takes_X rfl (okEs_cons (okE_var rfl (by first | exact .inl rfl | exact .inr (.inl rfl) | exact .inr (.inr rfl)) rfl rfl) (okEs_cons okE_int okEs_nil rfl) rfl) rfl rfl rfl) (fun _ _ => rfl)))) (okG_nameX hN rfl (by first | exact .inl rfl | exact .inr rfl) (.inl rfl)) rfl rfl rfl) okS_nil)) okS_nil)) okS_nil)) okS_nil)) okS_nil)) okS_nil)) okS_nil)))) (fun _ => rfl)) (okS_cons (okS_ret (okE_var rfl (by first | exact .inl rfl | exact .inr (.inl rfl) | exact .inr (.inr rfl)) rfl rfl)) okS_nil))
theorem h__law_shares_in (Z : Hd K mg) : FnAt P w K mg base 5 "_law_shares_in" 1 .v F__law_shares_in [] := by
  have b_any := Z.b_any
  have h__law_summed := h__law_summed (P := P) (w := w) (base := base) Z
  have h__law_part_in := h__law_part_in (P := P) (w := w) (base := base) Z
  have h__law_all_in := h__law_all_in (P := P) (w := w) (base := base) Z
  obtain ⟨fd, f, hm, F⟩ := Z.f__law_shares_in
  refine okDef (df := D__law_shares_in) (N := ["line", "found", "part", "own"]) (ps := ["line"]) F hm (by decide +kernel) rfl rfl ?_ ?_ ?_
  · intro kV doc pm an cdv ct us hl
    match us, hl with
    | [u0], _ => rfl
  · exact fun c hc => (List.not_mem_nil hc).elim
  · intro cdv A outer s H E n0 hr
    have hN : (["line", "found", "part", "own"] : List Str).Nodup := by decide +kernel
    exact (okS_cons (okS_set (okE_call h__law_all_in (hr.mono (by decide)) rfl takes_X rfl (okEs_cons (n2e (okN_lc (own := [("part", 2)]) rfl hN (okI_of (n2e (okN_split (okE_var rfl (by first | exact .inl rfl | exact .inr (.inl rfl) | exact .inr (.inr rfl)) rfl rfl) (okE_str (by decide +kernel)) rfl rfl rfl))) (blkOk_by (show blkC ["line", "found", "part", "own"] (defScope (top 56)) _ _ = true by decide +kernel)) (okG_nameB hN rfl rfl) (by decide) (fun Y hY => by obtain ⟨s, H, C, cl, fp, rfl⟩ := hY; exact okTs_nil) (fun Y hY => by obtain ⟨s, H, C, cl, fp, rfl⟩ := hY; exact (okE_call h__law_part_in (hr.mono (by decide)) rfl takes_W0 rfl (okEs_cons (okE_var rfl (by first | exact .inl rfl | exact .inr (.inl rfl) | exact .inr (.inr rfl)) rfl rfl) okEs_nil rfl) rfl rfl rfl)) (fun _ => rfl))) okEs_nil rfl) rfl rfl rfl) (okG_nameX hN rfl (by first | exact .inl rfl | exact .inr rfl) (.inl rfl)) rfl rfl rfl) (okS_cons (okS_if (Ok.te (OkW.ok (ok_or (ok_eq hr.units (okE_var rfl (by first | exact .inl rfl | exact .inr (.inl rfl) | exact .inr (.inr rfl)) rfl rfl) (n2e (okN_lst okEs_nil (by decide))) rfl) (ok_or (Ok.plain (okE_callB (id := "any") (cr_any rfl) prim_any rfl b_any (by decide +kernel) (okEs_cons (n2e (okN_lc (own := [("own", 3)]) rfl hN (okI_of (okE_idx (okE_var rfl (by first | exact .inl rfl | exact .inr (.inl rfl) | exact .inr (.inr rfl)) rfl rfl) okE_int (fun _ _ => rfl))) (blkOk_by (show blkC ["line", "found", "part", "own"] (defScope (top 56)) _ _ = true by decide +kernel)) (okG_nameB hN rfl rfl) (by decide) (fun Y hY => by obtain ⟨s, H, C, cl, fp, rfl⟩ := hY; exact okTs_nil) (fun Y hY => by obtain ⟨s, H, C, cl, fp, rfl⟩ := hY; exact (Ok.ve (ok_eq hr.units (okE_idx (okE_var rfl (by first | exact .inl rfl | exact .inr (.inl rfl) | exact .inr (.inr rfl)) rfl rfl) okE_int (fun _ _ => rfl)) okE_int rfl))) (fun _ => rfl))) okEs_nil rfl) (by decide) rfl rfl rfl) (fun _ => rfl)) (ok_or1 (ok_ne hr.units (okE_call h__law_summed (hr.mono (by decide)) rfl takes_X rfl (okEs_cons (okE_idx (okE_var rfl (by first | exact .inl rfl | exact .inr (.inl rfl) | exact .inr (.inr rfl)) rfl rfl) okE_int (fun _ _ => rfl)) okEs_nil rfl) rfl rfl rfl) (okE_tup (okEs_cons okE_int (okEs_cons okE_int okEs_nil rfl) rfl) (by decide)) rfl)))))) (okS_cons (okS_ret (n2e (okN_lst okEs_nil (by decide)))) okS_nil) okS_nil) (okS_cons (okS_ret (okE_var rfl (by first | exact .inl rfl | exact .inr (.inl rfl) | exact .inr (.inr rfl)) rfl rfl)) okS_nil)))
theorem h__law_bits (Z : Hd K mg) : FnAt P w K mg base 1 "_law_bits" 1 .v F__law_bits [] := by
  have b_any := Z.b_any
  have b_int := Z.b_int
  have b_tuple := Z.b_tuple
  obtain ⟨fd, f, hm, F⟩ := Z.f__law_bits
  refine okDef (df := D__law_bits) (N := ["text", "sign"]) (ps := ["text"]) F hm (by decide +kernel) rfl rfl ?_ ?_ ?_
  · intro kV doc pm an cdv ct us hl
    match us, hl with
    | [u0], _ => rfl
  · exact fun c hc => (List.not_mem_nil hc).elim
  · intro cdv A outer s H E n0 hr
    have hN : (["text", "sign"] : List Str).Nodup := by decide +kernel
    exact (okS_cons (okS_ret (Ok.ve (ok_ife (Ok.plain (okE_callB (id := "any") (cr_any rfl) prim_any rfl b_any (by decide +kernel) (okEs_cons (n2e (okN_lc (own := [("sign", 1)]) rfl hN (okI_of (okE_var rfl (by first | exact .inl rfl | exact .inr (.inl rfl) | exact .inr (.inr rfl)) rfl rfl)) (blkOk_by (show blkC ["text", "sign"] (defScope (top 57)) _ _ = true by decide +kernel)) (okG_nameB hN rfl rfl) (by decide) (fun Y hY => by obtain ⟨s, H, C, cl, fp, rfl⟩ := hY; exact okTs_nil) (fun Y hY => by obtain ⟨s, H, C, cl, fp, rfl⟩ := hY; exact (Ok.ve (ok_notin (room65 hr) (okE_var rfl (by first | exact .inl rfl | exact .inr (.inl rfl) | exact .inr (.inr rfl)) rfl rfl) (okE_str (by decide +kernel)) rfl))) (fun _ => rfl))) okEs_nil rfl) (by decide) rfl rfl rfl) (fun _ => rfl)) (Ok.plain (n2e (okN_lst okEs_nil (by decide))) (fun _ => rfl)) (Ok.plain (n2e (okN_lst (okEs_cons (okE_callTy (T := "tuple") call_tuple_of prim_tuple rfl b_tuple (by decide +kernel) (okEs_cons (n2e (okN_lc (own := [("sign", 1)]) rfl hN (okI_of (okE_var rfl (by first | exact .inl rfl | exact .inr (.inl rfl) | exact .inr (.inr rfl)) rfl rfl)) (blkOk_by (show blkC ["text", "sign"] (defScope (top 57)) _ _ = true by decide +kernel)) (okG_nameB hN rfl rfl) (by decide) (fun Y hY => by obtain ⟨s, H, C, cl, fp, rfl⟩ := hY; exact okTs_nil) (fun Y hY => by obtain ⟨s, H, C, cl, fp, rfl⟩ := hY; exact (okE_callTy (T := "int") call_int_str prim_intS rfl b_int (by decide +kernel) (okEs_cons (okE_var rfl (by first | exact .inl rfl | exact .inr (.inl rfl) | exact .inr (.inr rfl)) rfl rfl) okEs_nil rfl) (by decide) rfl rfl rfl)) (fun _ => rfl))) okEs_nil rfl) (by decide) rfl rfl rfl) okEs_nil rfl) (by decide))) (fun _ => rfl))))) okS_nil)
theorem h__law_figures_in (Z : Hd K mg) : FnAt P w K mg base 2 "_law_figures_in" 1 .v F__law_figures_in [] := by
  have b_len := Z.b_len
  have h__law_bits := h__law_bits (P := P) (w := w) (base := base) Z
  obtain ⟨fd, f, hm, F⟩ := Z.f__law_figures_in
  refine okDef (df := D__law_figures_in) (N := ["line", "ahead", "gap", "rest", "found"]) (ps := ["line"]) F hm (by decide +kernel) rfl rfl ?_ ?_ ?_
  · intro kV doc pm an cdv ct us hl
    match us, hl with
    | [u0], _ => rfl
  · exact fun c hc => (List.not_mem_nil hc).elim
  · intro cdv A outer s H E n0 hr
    have hN : (["line", "ahead", "gap", "rest", "found"] : List Str).Nodup := by decide +kernel
    exact (okS_cons (okS_set (okE_partition (okE_var rfl (by first | exact .inl rfl | exact .inr (.inl rfl) | exact .inr (.inr rfl)) rfl rfl) (okE_str (by decide +kernel)) rfl rfl rfl) (okG_tup (fun Y hY => by cases hY; rfl) (fun Y hY => by cases hY; rfl) (okGs_cons (okG_nameX hN rfl (by first | exact .inl rfl | exact .inr rfl) (.inl rfl)) (okGs_cons (okG_nameX hN rfl (by first | exact .inl rfl | exact .inr rfl) (.inl rfl)) (okGs_cons (okG_nameX hN rfl (by first | exact .inl rfl | exact .inr rfl) (.inl rfl)) okGs_nil (fun Y hY => by cases hY; rfl)) (fun Y hY => by cases hY; rfl)) (fun Y hY => by cases hY; rfl)) (fun Y hY => by cases hY; rfl) (fun Y hY => by cases hY; rfl)) rfl rfl rfl) (okS_cons (okS_set (n2e (okN_lst (okEs_cons (okE_call h__law_bits (hr.mono (by decide)) rfl takes_X rfl (okEs_cons (okE_var rfl (by first | exact .inl rfl | exact .inr (.inl rfl) | exact .inr (.inr rfl)) rfl rfl) okEs_nil rfl) rfl rfl rfl) (okEs_cons (okE_call h__law_bits (hr.mono (by decide)) rfl takes_X rfl (okEs_cons (n2e (okN_slHi (okE_var rfl (by first | exact .inl rfl | exact .inr (.inl rfl) | exact .inr (.inr rfl)) rfl rfl) (okE_neg okE_int))) okEs_nil rfl) rfl rfl rfl) okEs_nil rfl) rfl) (by decide))) (okG_nameX hN rfl (by first | exact .inl rfl | exact .inr rfl) (.inl rfl)) rfl rfl rfl) (okS_cons (okS_ret (Ok.ve (ok_ife (OkW.ok (ok_or (ok_eq hr.units (okE_var rfl (by first | exact .inl rfl | exact .inr (.inl rfl) | exact .inr (.inr rfl)) rfl rfl) (okE_str (by decide +kernel)) rfl) (ok_or (ok_ne hr.units (n2e (okN_slLo (okE_var rfl (by first | exact .inl rfl | exact .inr (.inl rfl) | exact .inr (.inr rfl)) rfl rfl) (okE_neg okE_int))) (okE_str (by decide +kernel)) rfl) (ok_or (ok_lt (okE_callB (id := "len") call_len prim_len rfl b_len (by decide +kernel) (okEs_cons (okE_var rfl (by first | exact .inl rfl | exact .inr (.inl rfl) | exact .inr (.inr rfl)) rfl rfl) okEs_nil rfl) (by decide) rfl rfl rfl) okE_int rfl) (ok_or1 (ok_in (room65 hr) (n2e (okN_lst okEs_nil (by decide))) (okE_var rfl (by first | exact .inl rfl | exact .inr (.inl rfl) | exact .inr (.inr rfl)) rfl rfl) rfl)))))) (Ok.plain (n2e (okN_lst okEs_nil (by decide))) (fun _ => rfl)) (Ok.plain (n2e (okN_lst (okEs_cons (okE_tup (okEs_cons (okE_idx (okE_idx (okE_var rfl (by first | exact .inl rfl | exact .inr (.inl rfl) | exact .inr (.inr rfl)) rfl rfl) okE_int (fun _ _ => rfl)) okE_int (fun _ _ => rfl)) (okEs_cons (okE_idx (okE_idx (okE_var rfl (by first | exact .inl rfl | exact .inr (.inl rfl) | exact .inr (.inr rfl)) rfl rfl) okE_int (fun _ _ => rfl)) okE_int (fun _ _ => rfl)) okEs_nil rfl) rfl) (by decide)) okEs_nil rfl) (by decide))) (fun _ => rfl))))) okS_nil)))
theorem h__law_tosses_in (Z : Hd K mg) : FnAt P w K mg base 2 "_law_tosses_in" 1 .v F__law_tosses_in [] := by
  have h__law_bits := h__law_bits (P := P) (w := w) (base := base) Z
  obtain ⟨fd, f, hm, F⟩ := Z.f__law_tosses_in
  refine okDef (df := D__law_tosses_in) (N := ["line"]) (ps := ["line"]) F hm (by decide +kernel) rfl rfl ?_ ?_ ?_
  · intro kV doc pm an cdv ct us hl
    match us, hl with
    | [u0], _ => rfl
  · exact fun c hc => (List.not_mem_nil hc).elim
  · intro cdv A outer s H E n0 hr
    have hN : (["line"] : List Str).Nodup := by decide +kernel
    exact (okS_cons (okS_ret (Ok.ve (ok_ife (ok_eq hr.units (okE_var rfl (by first | exact .inl rfl | exact .inr (.inl rfl) | exact .inr (.inr rfl)) rfl rfl) (okE_str (by decide +kernel)) rfl) (Ok.plain (n2e (okN_lst (okEs_cons (okE_tup okEs_nil (by decide)) okEs_nil rfl) (by decide))) (fun _ => rfl)) (ok_ife (ok_eq hr.units (okE_var rfl (by first | exact .inl rfl | exact .inr (.inl rfl) | exact .inr (.inr rfl)) rfl rfl) (okE_str (by decide +kernel)) rfl) (Ok.plain (n2e (okN_lst okEs_nil (by decide))) (fun _ => rfl)) (Ok.plain (okE_call h__law_bits (hr.mono (by decide)) rfl takes_X rfl (okEs_cons (okE_var rfl (by first | exact .inl rfl | exact .inr (.inl rfl) | exact .inr (.inr rfl)) rfl rfl) okEs_nil rfl) rfl rfl rfl) (fun _ => rfl)))))) okS_nil)
theorem h__law_one_line (Z : Hd K mg) : FnAt P w K mg base 6 "_law_one_line" 2 .v F__law_one_line [] := by
  have b_len := Z.b_len
  have v__law_figures_in := Z.v__law_figures_in
  have v__law_part_in := Z.v__law_part_in
  have v__law_shares_in := Z.v__law_shares_in
  have v__law_tosses_in := Z.v__law_tosses_in
  have h__law_part_in := h__law_part_in (P := P) (w := w) (base := base) Z
  have h__law_shares_in := h__law_shares_in (P := P) (w := w) (base := base) Z
  have h__law_figures_in := h__law_figures_in (P := P) (w := w) (base := base) Z
  have h__law_tosses_in := h__law_tosses_in (P := P) (w := w) (base := base) Z
  obtain ⟨fd, f, hm, F⟩ := Z.f__law_one_line
  refine okDef (df := D__law_one_line) (N := ["read", "text", "lines", "own"]) (ps := ["read", "text"]) F hm (by decide +kernel) rfl rfl ?_ ?_ ?_
  · intro kV doc pm an cdv ct us hl
    match us, hl with
    | [u0, u1], _ => rfl
  · exact fun c hc => (List.not_mem_nil hc).elim
  · intro cdv A outer s H E n0 hr
    have hN : (["read", "text", "lines", "own"] : List Str).Nodup := by decide +kernel
    exact (okS_cons (okS_set (n2e (okN_split (okE_var rfl (by first | exact .inl rfl | exact .inr (.inl rfl) | exact .inr (.inr rfl)) rfl rfl) (okE_str (by decide +kernel)) rfl rfl rfl)) (okG_nameX hN rfl (by first | exact .inl rfl | exact .inr rfl) (.inl rfl)) rfl rfl rfl) (okS_cons (okS_set (okE_callv (k := 5) (tbl_cons v__law_part_in h__law_part_in (by decide) (tbl_cons v__law_shares_in h__law_shares_in (by decide) (tbl_cons v__law_figures_in h__law_figures_in (by decide) (tbl_cons v__law_tosses_in h__law_tosses_in (by decide) tbl_nil)))) (hr.mono (by decide)) rfl (by first | exact .inl rfl | exact .inr (.inl rfl) | exact .inr (.inr rfl)) takes_X rfl (okEs_cons (okE_idx (okE_var rfl (by first | exact .inl rfl | exact .inr (.inl rfl) | exact .inr (.inr rfl)) rfl rfl) okE_int (fun _ _ => rfl)) okEs_nil rfl) rfl rfl rfl rfl) (okG_nameX hN rfl (by first | exact .inl rfl | exact .inr rfl) (.inl rfl)) rfl rfl rfl) (okS_cons (okS_if (Ok.te (OkW.ok (ok_or (ok_eq hr.units (okE_var rfl (by first | exact .inl rfl | exact .inr (.inl rfl) | exact .inr (.inr rfl)) rfl rfl) (n2e (okN_lst okEs_nil (by decide))) rfl) (ok_or1 (ok_gt (okE_callB (id := "len") call_len prim_len rfl b_len (by decide +kernel) (okEs_cons (okE_var rfl (by first | exact .inl rfl | exact .inr (.inl rfl) | exact .inr (.inr rfl)) rfl rfl) okEs_nil rfl) (by decide) rfl rfl rfl) okE_int rfl))))) (okS_cons (okS_ret (okE_tup (okEs_cons okE_bl (okEs_cons (Ok.ve (ok_ife (ok_eq hr.units (okE_var rfl (by first | exact .inl rfl | exact .inr (.inl rfl) | exact .inr (.inr rfl)) rfl rfl) (n2e (okN_lst okEs_nil (by decide))) rfl) (Ok.plain okE_int (fun _ => rfl)) (Ok.plain okE_int (fun _ => rfl)))) okEs_nil rfl) rfl) (by decide))) okS_nil) okS_nil) (okS_cons (okS_ret (okE_tup (okEs_cons okE_bl (okEs_cons (okE_idx (okE_var rfl (by first | exact .inl rfl | exact .inr (.inl rfl) | exact .inr (.inr rfl)) rfl rfl) okE_int (fun _ _ => rfl)) okEs_nil rfl) rfl) (by decide))) okS_nil))))
theorem h__law_big (Z : Hd K mg) : FnAt P w K mg base 2 "_law_big" 1 .v F__law_big [] := by
  have b_range := Z.b_range
  have h__law_take := h__law_take (P := P) (w := w) (base := base) Z
  obtain ⟨fd, f, hm, F⟩ := Z.f__law_big
  refine okDef (df := D__law_big) (N := ["pot", "size", "found", "turn"]) (ps := ["pot"]) F hm (by decide +kernel) rfl rfl ?_ ?_ ?_
  · intro kV doc pm an cdv ct us hl
    match us, hl with
    | [u0], _ => rfl
  · exact fun c hc => (List.not_mem_nil hc).elim
  · intro cdv A outer s H E n0 hr
    have hN : (["pot", "size", "found", "turn"] : List Str).Nodup := by decide +kernel
    exact (okS_cons (okS_par2 rfl hN rfl rfl (by decide) rfl rfl (okPk_v (okE_idx (n2e (okN_lst (okEs_cons okE_int (okEs_cons okE_int (okEs_cons okE_int (okEs_cons okE_int (okEs_cons okE_int okEs_nil rfl) rfl) rfl) rfl) rfl) (by decide))) (okE_call h__law_take (hr.mono (by decide)) rfl takes_X rfl (okEs_cons (okE_var rfl (by first | exact .inl rfl | exact .inr (.inl rfl) | exact .inr (.inr rfl)) rfl rfl) (okEs_cons okE_int okEs_nil rfl) rfl) rfl rfl rfl) (fun _ _ => rfl)) (okPk_v okE_int okPk_nil rfl) rfl) rfl rfl) (okS_cons (okS_for passes_X rfl (okI_rng1 rfl b_range (okEs_cons (n2e (okN_add okE_int (okE_call h__law_take (hr.mono (by decide)) rfl takes_X rfl (okEs_cons (okE_var rfl (by first | exact .inl rfl | exact .inr (.inl rfl) | exact .inr (.inr rfl)) rfl rfl) (okEs_cons (okE_var rfl (by first | exact .inl rfl | exact .inr (.inl rfl) | exact .inr (.inr rfl)) rfl rfl) okEs_nil rfl) rfl) rfl rfl rfl))) okEs_nil rfl) rfl) (okG_nameX hN rfl (by first | exact .inl rfl | exact .inr rfl) (.inl rfl)) (okS_cons (okS_set (n2e (okN_add (n2e (okN_mul okE_int (okE_var rfl (by first | exact .inl rfl | exact .inr (.inl rfl) | exact .inr (.inr rfl)) rfl rfl))) (okE_call h__law_take (hr.mono (by decide)) rfl takes_X rfl (okEs_cons (okE_var rfl (by first | exact .inl rfl | exact .inr (.inl rfl) | exact .inr (.inr rfl)) rfl rfl) (okEs_cons okE_int okEs_nil rfl) rfl) rfl rfl rfl))) (okG_nameX hN rfl (by first | exact .inl rfl | exact .inr rfl) (.inl rfl)) rfl rfl rfl) okS_nil) (fun _ => rfl)) (okS_cons (okS_ret (okE_var rfl (by first | exact .inl rfl | exact .inr (.inl rfl) | exact .inr (.inr rfl)) rfl rfl)) okS_nil)))
theorem h__law_big_number (Z : Hd K mg) : FnAt P w K mg base 3 "_law_big_number" 1 .v F__law_big_number [] := by
  have b_max := Z.b_max
  have h__law_take := h__law_take (P := P) (w := w) (base := base) Z
  have h__law_low := h__law_low (P := P) (w := w) (base := base) Z
  have h__law_big := h__law_big (P := P) (w := w) (base := base) Z
  obtain ⟨fd, f, hm, F⟩ := Z.f__law_big_number
  refine okDef (df := D__law_big_number) (N := ["pot"]) (ps := ["pot"]) F hm (by decide +kernel) rfl rfl ?_ ?_ ?_
  · intro kV doc pm an cdv ct us hl
    match us, hl with
    | [u0], _ => rfl
  · exact fun c hc => (List.not_mem_nil hc).elim
  · intro cdv A outer s H E n0 hr
    have hN : (["pot"] : List Str).Nodup := by decide +kernel
    exact (okS_cons (okS_ret (Ok.ve (ok_ife (ok_gt (okE_call h__law_take (hr.mono (by decide)) rfl takes_X rfl (okEs_cons (okE_var rfl (by first | exact .inl rfl | exact .inr (.inl rfl) | exact .inr (.inr rfl)) rfl rfl) (okEs_cons okE_int okEs_nil rfl) rfl) rfl rfl rfl) okE_int rfl) (Ok.plain (okE_call h__law_low (hr.mono (by decide)) rfl takes_X rfl (okEs_cons (okE_call h__law_big (hr.mono (by decide)) rfl takes_X rfl (okEs_cons (okE_var rfl (by first | exact .inl rfl | exact .inr (.inl rfl) | exact .inr (.inr rfl)) rfl rfl) okEs_nil rfl) rfl rfl rfl) (okEs_cons (okE_callB (id := "max") (call_max2 rfl) prim_max rfl b_max (by decide +kernel) (okEs_cons okE_int (okEs_cons (okE_call h__law_big (hr.mono (by decide)) rfl takes_X rfl (okEs_cons (okE_var rfl (by first | exact .inl rfl | exact .inr (.inl rfl) | exact .inr (.inr rfl)) rfl rfl) okEs_nil rfl) rfl rfl rfl) okEs_nil rfl) rfl) (by decide) rfl rfl rfl) okEs_nil rfl) rfl) rfl rfl rfl) (fun _ => rfl)) (Ok.plain (okE_tup (okEs_cons (okE_call h__law_take (hr.mono (by decide)) rfl takes_X rfl (okEs_cons (okE_var rfl (by first | exact .inl rfl | exact .inr (.inl rfl) | exact .inr (.inr rfl)) rfl rfl) (okEs_cons okE_int okEs_nil rfl) rfl) rfl rfl rfl) (okEs_cons okE_int okEs_nil rfl) rfl) (by decide)) (fun _ => rfl))))) okS_nil)
theorem h__law_due (Z : Hd K mg) : FnAt P w K mg base 7 "_law_due" 2 .v F__law_due [] := by
  have v__law_figures_in := Z.v__law_figures_in
  have v__law_part_in := Z.v__law_part_in
  have v__law_shares_in := Z.v__law_shares_in
  have v__law_tosses_in := Z.v__law_tosses_in
  have h__law_one_line := h__law_one_line (P := P) (w := w) (base := base) Z
  obtain ⟨fd, f, hm, F⟩ := Z.f__law_due
  refine okDef (df := D__law_due) (N := ["sort", "text"]) (ps := ["sort", "text"]) F hm (by decide +kernel) rfl rfl ?_ ?_ ?_
  · intro kV doc pm an cdv ct us hl
    match us, hl with
    | [u0, u1], _ => rfl
  · exact fun c hc => (List.not_mem_nil hc).elim
  · intro cdv A outer s H E n0 hr
    have hN : (["sort", "text"] : List Str).Nodup := by decide +kernel
    exact (okS_cons (okS_if (Ok.te (ok_eq hr.units (okE_var rfl (by first | exact .inl rfl | exact .inr (.inl rfl) | exact .inr (.inr rfl)) rfl rfl) okE_int rfl)) (okS_cons (okS_ret (okE_call h__law_one_line (hr.mono (by decide)) rfl takes_X rfl (okEs_cons (okE_g (v := V.ref (He.ga K "_law_part_in")) (C8.pe_gc rfl ⟨_, v__law_part_in, rfl⟩ rfl) (rep_fn "_law_part_in")) (okEs_cons (okE_var rfl (by first | exact .inl rfl | exact .inr (.inl rfl) | exact .inr (.inr rfl)) rfl rfl) okEs_nil rfl) rfl) rfl rfl rfl)) okS_nil) okS_nil) (okS_cons (okS_if (Ok.te (ok_eq hr.units (okE_var rfl (by first | exact .inl rfl | exact .inr (.inl rfl) | exact .inr (.inr rfl)) rfl rfl) okE_int rfl)) (okS_cons (okS_ret (okE_call h__law_one_line (hr.mono (by decide)) rfl takes_X rfl (okEs_cons (okE_g (v := V.ref (He.ga K "_law_shares_in")) (C8.pe_gc rfl ⟨_, v__law_shares_in, rfl⟩ rfl) (rep_fn "_law_shares_in")) (okEs_cons (okE_var rfl (by first | exact .inl rfl | exact .inr (.inl rfl) | exact .inr (.inr rfl)) rfl rfl) okEs_nil rfl) rfl) rfl rfl rfl)) okS_nil) okS_nil) (okS_cons (okS_ret (okE_call h__law_one_line (hr.mono (by decide)) rfl takes_X rfl (okEs_cons (Ok.ve (ok_ife (ok_eq hr.units (okE_var rfl (by first | exact .inl rfl | exact .inr (.inl rfl) | exact .inr (.inr rfl)) rfl rfl) okE_int rfl) (Ok.plain (okE_g (v := V.ref (He.ga K "_law_figures_in")) (C8.pe_gc rfl ⟨_, v__law_figures_in, rfl⟩ rfl) (rep_fn "_law_figures_in")) (fun _ => rfl)) (Ok.plain (okE_g (v := V.ref (He.ga K "_law_tosses_in")) (C8.pe_gc rfl ⟨_, v__law_tosses_in, rfl⟩ rfl) (rep_fn "_law_tosses_in")) (fun _ => rfl)))) (okEs_cons (okE_var rfl (by first | exact .inl rfl | exact .inr (.inl rfl) | exact .inr (.inr rfl)) rfl rfl) okEs_nil rfl) rfl) rfl rfl rfl)) okS_nil)))
theorem h__law_read (Z : Hd K mg) : FnAt P w K mg base 9 "_law_read" 3 .v F__law_read [] := by
  have o_Unreadable := ox_Unreadable (P := P) (w := w) (base := base) Z
  have h_read_number := h_read_number (P := P) (w := w) (base := base) Z
  have h_read_shares := h_read_shares (P := P) (w := w) (base := base) Z
  have h_read_figures := h_read_figures (P := P) (w := w) (base := base) Z
  have h_read_tosses := h_read_tosses (P := P) (w := w) (base := base) Z
  obtain ⟨fd, f, hm, F⟩ := Z.f__law_read
  refine okDef (df := D__law_read) (N := ["sort", "text", "named", "told", "error"]) (ps := ["sort", "text", "named"]) F hm (by decide +kernel) rfl rfl ?_ ?_ ?_
  · intro kV doc pm an cdv ct us hl
    match us, hl with
    | [u0, u1, u2], _ => rfl
  · exact fun c hc => (List.not_mem_nil hc).elim
  · intro cdv A outer s H E n0 hr
    have hN : (["sort", "text", "named", "told", "error"] : List Str).Nodup := by decide +kernel
    exact (okS_cons (okS_set okE_non (okG_nameX hN rfl (by first | exact .inl rfl | exact .inr rfl) (.inl rfl)) rfl rfl rfl) (okS_cons (okS_tryV o_Unreadable rfl rfl hN rfl rfl rfl (by first | exact .inl rfl | exact .inr rfl) (.inl rfl) rfl rfl takes_X (by first | exact .inl rfl | exact .inr (.inl rfl) | exact .inr (.inr rfl)) rfl rfl (fun W' pn xe tkT po => (okS_cons (okS_if (Ok.te (ok_eq hr.units (okE_var rfl (by first | exact .inl rfl | exact .inr (.inl rfl) | exact .inr (.inr rfl)) rfl rfl) okE_int rfl)) (okS_cons (okS_set (okE_tup (okEs_cons okE_bl (okEs_cons (Ok.ve (ok_ife (Ok.plain (okE_var rfl (by first | exact .inl rfl | exact .inr (.inl rfl) | exact .inr (.inr rfl)) rfl rfl) (fun _ => rfl)) (Ok.plain (okE_callK0 (ks := ["text"]) h_read_number (hr.mono (by decide)) rfl tkT (by decide +kernel) rfl rfl (okK_cons (okE_var rfl (by first | exact .inl rfl | exact .inr (.inl rfl) | exact .inr (.inr rfl)) rfl rfl) okK_nil) rfl rfl rfl rfl) (fun _ => rfl)) (Ok.plain (okE_call h_read_number (hr.mono (by decide)) rfl tkT rfl (okEs_cons (okE_var rfl (by first | exact .inl rfl | exact .inr (.inl rfl) | exact .inr (.inr rfl)) rfl rfl) okEs_nil rfl) rfl rfl rfl) (fun _ => rfl)))) okEs_nil rfl) rfl) (by decide)) (okG_nameX hN rfl (by first | exact .inl rfl | exact .inr rfl) (.inl rfl)) rfl rfl rfl) okS_nil) (okS_cons (okS_if (Ok.te (ok_eq hr.units (okE_var rfl (by first | exact .inl rfl | exact .inr (.inl rfl) | exact .inr (.inr rfl)) rfl rfl) okE_int rfl)) (okS_cons (okS_set (okE_tup (okEs_cons okE_bl (okEs_cons (Ok.ve (ok_ife (Ok.plain (okE_var rfl (by first | exact .inl rfl | exact .inr (.inl rfl) | exact .inr (.inr rfl)) rfl rfl) (fun _ => rfl)) (Ok.plain (okE_callK0 (ks := ["text"]) h_read_shares (hr.mono (by decide)) rfl tkT (by decide +kernel) rfl rfl (okK_cons (okE_var rfl (by first | exact .inl rfl | exact .inr (.inl rfl) | exact .inr (.inr rfl)) rfl rfl) okK_nil) rfl rfl rfl rfl) (fun _ => rfl)) (Ok.plain (okE_call h_read_shares (hr.mono (by decide)) rfl tkT rfl (okEs_cons (okE_var rfl (by first | exact .inl rfl | exact .inr (.inl rfl) | exact .inr (.inr rfl)) rfl rfl) okEs_nil rfl) rfl rfl rfl) (fun _ => rfl)))) okEs_nil rfl) rfl) (by decide)) (okG_nameX hN rfl (by first | exact .inl rfl | exact .inr rfl) (.inl rfl)) rfl rfl rfl) okS_nil) (okS_cons (okS_if (Ok.te (ok_eq hr.units (okE_var rfl (by first | exact .inl rfl | exact .inr (.inl rfl) | exact .inr (.inr rfl)) rfl rfl) okE_int rfl)) (okS_cons (okS_set (okE_tup (okEs_cons okE_bl (okEs_cons (Ok.ve (ok_ife (Ok.plain (okE_var rfl (by first | exact .inl rfl | exact .inr (.inl rfl) | exact .inr (.inr rfl)) rfl rfl) (fun _ => rfl)) (Ok.plain (okE_callK0 (ks := ["text"]) h_read_figures (hr.mono (by decide)) rfl tkT (by decide +kernel) rfl rfl (okK_cons (okE_var rfl (by first | exact .inl rfl | exact .inr (.inl rfl) | exact .inr (.inr rfl)) rfl rfl) okK_nil) rfl rfl rfl rfl) (fun _ => rfl)) (Ok.plain (okE_call h_read_figures (hr.mono (by decide)) rfl tkT rfl (okEs_cons (okE_var rfl (by first | exact .inl rfl | exact .inr (.inl rfl) | exact .inr (.inr rfl)) rfl rfl) okEs_nil rfl) rfl rfl rfl) (fun _ => rfl)))) okEs_nil rfl) rfl) (by decide)) (okG_nameX hN rfl (by first | exact .inl rfl | exact .inr rfl) (.inl rfl)) rfl rfl rfl) okS_nil) (okS_cons (okS_set (okE_tup (okEs_cons okE_bl (okEs_cons (Ok.ve (ok_ife (Ok.plain (okE_var rfl (by first | exact .inl rfl | exact .inr (.inl rfl) | exact .inr (.inr rfl)) rfl rfl) (fun _ => rfl)) (Ok.plain (okE_callK0 (ks := ["text"]) h_read_tosses (hr.mono (by decide)) rfl tkT (by decide +kernel) rfl rfl (okK_cons (okE_var rfl (by first | exact .inl rfl | exact .inr (.inl rfl) | exact .inr (.inr rfl)) rfl rfl) okK_nil) rfl rfl rfl rfl) (fun _ => rfl)) (Ok.plain (okE_call h_read_tosses (hr.mono (by decide)) rfl tkT rfl (okEs_cons (okE_var rfl (by first | exact .inl rfl | exact .inr (.inl rfl) | exact .inr (.inr rfl)) rfl rfl) okEs_nil rfl) rfl rfl rfl) (fun _ => rfl)))) okEs_nil rfl) rfl) (by decide)) (okG_nameX hN rfl (by first | exact .inl rfl | exact .inr rfl) (.inl rfl)) rfl rfl rfl) okS_nil)) okS_nil)) okS_nil)) okS_nil)) (fun _ _ _ => rfl) rfl) (okS_cons (okS_ret (okE_var rfl (by first | exact .inl rfl | exact .inr (.inl rfl) | exact .inr (.inr rfl)) rfl rfl)) okS_nil)))
theorem h__law_shown (Z : Hd K mg) : FnAt P w K mg base 3 "_law_shown" 2 .v F__law_shown [] := by
  have h_show_number := h_show_number (P := P) (w := w) (base := base) Z
  have h_show_shares := h_show_shares (P := P) (w := w) (base := base) Z
  have h_show_figures := h_show_figures (P := P) (w := w) (base := base) Z
  have h_show_tosses := h_show_tosses (P := P) (w := w) (base := base) Z
  obtain ⟨fd, f, hm, F⟩ := Z.f__law_shown
  refine okDef (df := D__law_shown) (N := ["sort", "thing"]) (ps := ["sort", "thing"]) F hm (by decide +kernel) rfl rfl ?_ ?_ ?_
  · intro kV doc pm an cdv ct us hl
    match us, hl with
    | [u0, u1], _ => rfl
  · exact fun c hc => (List.not_mem_nil hc).elim
  · intro cdv A outer s H E n0 hr
    have hN : (["sort", "thing"] : List Str).Nodup := by decide +kernel
    exact (okS_cons (okS_if (Ok.te (ok_lt (okE_var rfl (by first | exact .inl rfl | exact .inr (.inl rfl) | exact .inr (.inr rfl)) rfl rfl) okE_int rfl)) (okS_cons (okS_ret (Ok.ve (ok_ife (ok_eq hr.units (okE_var rfl (by first | exact .inl rfl | exact .inr (.inl rfl) | exact .inr (.inr rfl)) rfl rfl) okE_int rfl) (Ok.plain (okE_call h_show_number (hr.mono (by decide)) rfl takes_X rfl (okEs_cons (okE_var rfl (by first | exact .inl rfl | exact .inr (.inl rfl) | exact .inr (.inr rfl)) rfl rfl) okEs_nil rfl) rfl rfl rfl) (fun _ => rfl)) (Ok.plain (okE_call h_show_shares (hr.mono (by decide)) rfl takes_X rfl (okEs_cons (okE_var rfl (by first | exact .inl rfl | exact .inr (.inl rfl) | exact .inr (.inr rfl)) rfl rfl) okEs_nil rfl) rfl rfl rfl) (fun _ => rfl))))) okS_nil) okS_nil) (okS_cons (okS_ret (Ok.ve (ok_ife (ok_eq hr.units (okE_var rfl (by first | exact .inl rfl | exact .inr (.inl rfl) | exact .inr (.inr rfl)) rfl rfl) okE_int rfl) (Ok.plain (okE_call h_show_figures (hr.mono (by decide)) rfl takes_X rfl (okEs_cons (okE_var rfl (by first | exact .inl rfl | exact .inr (.inl rfl) | exact .inr (.inr rfl)) rfl rfl) okEs_nil rfl) rfl rfl rfl) (fun _ => rfl)) (Ok.plain (okE_call h_show_tosses (hr.mono (by decide)) rfl takes_X rfl (okEs_cons (okE_var rfl (by first | exact .inl rfl | exact .inr (.inl rfl) | exact .inr (.inr rfl)) rfl rfl) okEs_nil rfl) rfl rfl rfl) (fun _ => rfl))))) okS_nil))
theorem h__law_great_shares (Z : Hd K mg) : FnAt P w K mg base 3 "_law_great_shares" 1 .v F__law_great_shares [] := by
  have b_range := Z.b_range
  have b_sum := Z.b_sum
  have b_tuple := Z.b_tuple
  have h__law_take := h__law_take (P := P) (w := w) (base := base) Z
  have h__law_low := h__law_low (P := P) (w := w) (base := base) Z
  obtain ⟨fd, f, hm, F⟩ := Z.f__law_great_shares
  refine okDef (df := D__law_great_shares) (N := ["pot", "weights", "thing", "own"]) (ps := ["pot"]) F hm (by decide +kernel) rfl rfl ?_ ?_ ?_
  · intro kV doc pm an cdv ct us hl
    match us, hl with
    | [u0], _ => rfl
  · exact fun c hc => (List.not_mem_nil hc).elim
  · intro cdv A outer s H E n0 hr
    have hN : (["pot", "weights", "thing", "own"] : List Str).Nodup := by decide +kernel
    exact (okS_cons (okS_set (n2e (okN_lc (own := [("thing", 2)]) rfl hN (okI_rng1 rfl b_range (okEs_cons (n2e (okN_add okE_int (okE_call h__law_take (hr.mono (by decide)) rfl takes_X rfl (okEs_cons (okE_var rfl (by first | exact .inl rfl | exact .inr (.inl rfl) | exact .inr (.inr rfl)) rfl rfl) (okEs_cons (okE_idx (n2e (okN_lst (okEs_cons okE_int (okEs_cons okE_int okEs_nil rfl) rfl) (by decide))) (okE_call h__law_take (hr.mono (by decide)) rfl takes_X rfl (okEs_cons (okE_var rfl (by first | exact .inl rfl | exact .inr (.inl rfl) | exact .inr (.inr rfl)) rfl rfl) (okEs_cons okE_int okEs_nil rfl) rfl) rfl rfl rfl) (fun _ _ => rfl)) okEs_nil rfl) rfl) rfl rfl rfl))) okEs_nil rfl) rfl) (blkOk_by (show blkC ["pot", "weights", "thing", "own"] (defScope (top 63)) _ _ = true by decide +kernel)) (okG_nameB hN rfl rfl) (by decide) (fun Y hY => by obtain ⟨s, H, C, cl, fp, rfl⟩ := hY; exact okTs_nil) (fun Y hY => by obtain ⟨s, H, C, cl, fp, rfl⟩ := hY; exact (n2e (okN_add okE_int (okE_call h__law_take (hr.mono (by decide)) rfl takes_W0 rfl (okEs_cons (okE_var rfl (by first | exact .inl rfl | exact .inr (.inl rfl) | exact .inr (.inr rfl)) rfl rfl) (okEs_cons (okE_idx (n2e (okN_lst (okEs_cons okE_int (okEs_cons okE_int (okEs_cons (okE_pow okE_int okE_int) okEs_nil rfl) rfl) rfl) (by decide))) (okE_call h__law_take (hr.mono (by decide)) rfl takes_W0 rfl (okEs_cons (okE_var rfl (by first | exact .inl rfl | exact .inr (.inl rfl) | exact .inr (.inr rfl)) rfl rfl) (okEs_cons okE_int okEs_nil rfl) rfl) rfl rfl rfl) (fun _ _ => rfl)) okEs_nil rfl) rfl) rfl rfl rfl)))) (fun _ => rfl))) (okG_nameX hN rfl (by first | exact .inl rfl | exact .inr rfl) (.inl rfl)) rfl rfl rfl) (okS_cons (okS_ret (okE_callTy (T := "tuple") call_tuple_of prim_tuple rfl b_tuple (by decide +kernel) (okEs_cons (n2e (okN_lc (own := [("own", 3)]) rfl hN (okI_of (okE_var rfl (by first | exact .inl rfl | exact .inr (.inl rfl) | exact .inr (.inr rfl)) rfl rfl)) (blkOk_by (show blkC ["pot", "weights", "thing", "own"] (defScope (top 63)) _ _ = true by decide +kernel)) (okG_nameB hN rfl rfl) (by decide) (fun Y hY => by obtain ⟨s, H, C, cl, fp, rfl⟩ := hY; exact okTs_nil) (fun Y hY => by obtain ⟨s, H, C, cl, fp, rfl⟩ := hY; exact (okE_call h__law_low (hr.mono (by decide)) rfl takes_W0 rfl (okEs_cons (okE_var rfl (by first | exact .inl rfl | exact .inr (.inl rfl) | exact .inr (.inr rfl)) rfl rfl) (okEs_cons (okE_callB (id := "sum") (cr_sum rfl) prim_sum rfl b_sum (by decide +kernel) (okEs_cons (okE_var rfl (by first | exact .inl rfl | exact .inr (.inl rfl) | exact .inr (.inr rfl)) rfl rfl) okEs_nil rfl) (by decide) rfl rfl rfl) okEs_nil rfl) rfl) rfl rfl rfl)) (fun _ => rfl))) okEs_nil rfl) (by decide) rfl rfl rfl)) okS_nil))
theorem h__law_thing (Z : Hd K mg) : FnAt P w K mg base 4 "_law_thing" 2 .v F__law_thing [] := by
  have b_range := Z.b_range
  have b_str := Z.b_str
  have b_tuple := Z.b_tuple
  have h__law_take := h__law_take (P := P) (w := w) (base := base) Z
  have h__law_show := h__law_show (P := P) (w := w) (base := base) Z
  have h__law_numbers_text := h__law_numbers_text (P := P) (w := w) (base := base) Z
  have h__law_big_number := h__law_big_number (P := P) (w := w) (base := base) Z
  have h__law_great_shares := h__law_great_shares (P := P) (w := w) (base := base) Z
  obtain ⟨fd, f, hm, F⟩ := Z.f__law_thing
  refine okDef (df := D__law_thing) (N := ["pot", "sort", "own", "step", "bit"]) (ps := ["pot", "sort"]) F hm (by decide +kernel) rfl rfl ?_ ?_ ?_
  · intro kV doc pm an cdv ct us hl
    match us, hl with
    | [u0, u1], _ => rfl
  · exact fun c hc => (List.not_mem_nil hc).elim
  · intro cdv A outer s H E n0 hr
    have hN : (["pot", "sort", "own", "step", "bit"] : List Str).Nodup := by decide +kernel
    exact (okS_cons (okS_if (Ok.te (ok_eq hr.units (okE_var rfl (by first | exact .inl rfl | exact .inr (.inl rfl) | exact .inr (.inr rfl)) rfl rfl) okE_int rfl)) (okS_cons (okS_set (okE_call h__law_big_number (hr.mono (by decide)) rfl takes_X rfl (okEs_cons (okE_var rfl (by first | exact .inl rfl | exact .inr (.inl rfl) | exact .inr (.inr rfl)) rfl rfl) okEs_nil rfl) rfl rfl rfl) (okG_nameX hN rfl (by first | exact .inl rfl | exact .inr rfl) (.inl rfl)) rfl rfl rfl) (okS_cons (okS_ret (okE_tup (okEs_cons (okE_var rfl (by first | exact .inl rfl | exact .inr (.inl rfl) | exact .inr (.inr rfl)) rfl rfl) (okEs_cons (okE_call h__law_show (hr.mono (by decide)) rfl takes_X rfl (okEs_cons (okE_var rfl (by first | exact .inl rfl | exact .inr (.inl rfl) | exact .inr (.inr rfl)) rfl rfl) okEs_nil rfl) rfl rfl rfl) okEs_nil rfl) rfl) (by decide))) okS_nil)) okS_nil) (okS_cons (okS_if (Ok.te (ok_eq hr.units (okE_var rfl (by first | exact .inl rfl | exact .inr (.inl rfl) | exact .inr (.inr rfl)) rfl rfl) okE_int rfl)) (okS_cons (okS_set (okE_call h__law_great_shares (hr.mono (by decide)) rfl takes_X rfl (okEs_cons (okE_var rfl (by first | exact .inl rfl | exact .inr (.inl rfl) | exact .inr (.inr rfl)) rfl rfl) okEs_nil rfl) rfl rfl rfl) (okG_nameX hN rfl (by first | exact .inl rfl | exact .inr rfl) (.inl rfl)) rfl rfl rfl) (okS_cons (okS_ret (okE_tup (okEs_cons (okE_var rfl (by first | exact .inl rfl | exact .inr (.inl rfl) | exact .inr (.inr rfl)) rfl rfl) (okEs_cons (okE_call h__law_numbers_text (hr.mono (by decide)) rfl takes_X rfl (okEs_cons (okE_var rfl (by first | exact .inl rfl | exact .inr (.inl rfl) | exact .inr (.inr rfl)) rfl rfl) okEs_nil rfl) rfl rfl rfl) okEs_nil rfl) rfl) (by decide))) okS_nil)) okS_nil) (okS_cons (okS_if (Ok.te (ok_eq hr.units (okE_var rfl (by first | exact .inl rfl | exact .inr (.inl rfl) | exact .inr (.inr rfl)) rfl rfl) okE_int rfl)) (okS_cons (okS_set (okE_tup (okEs_cons (n2e (okN_add (okE_tup (okEs_cons okE_int okEs_nil rfl) (by decide)) (okE_callTy (T := "tuple") call_tuple_of prim_tuple rfl b_tuple (by decide +kernel) (okEs_cons (n2e (okN_lc (own := [("step", 3)]) rfl hN (okI_rng1 rfl b_range (okEs_cons (okE_call h__law_take (hr.mono (by decide)) rfl takes_X rfl (okEs_cons (okE_var rfl (by first | exact .inl rfl | exact .inr (.inl rfl) | exact .inr (.inr rfl)) rfl rfl) (okEs_cons okE_int okEs_nil rfl) rfl) rfl rfl rfl) okEs_nil rfl) rfl) (blkOk_by (show blkC ["pot", "sort", "own", "step", "bit"] (defScope (top 64)) _ _ = true by decide +kernel)) (okG_nameB hN rfl rfl) (by decide) (fun Y hY => by obtain ⟨s, H, C, cl, fp, rfl⟩ := hY; exact okTs_nil) (fun Y hY => by obtain ⟨s, H, C, cl, fp, rfl⟩ := hY; exact (okE_call h__law_take (hr.mono (by decide)) rfl takes_W0 rfl (okEs_cons (okE_var rfl (by first | exact .inl rfl | exact .inr (.inl rfl) | exact .inr (.inr rfl)) rfl rfl) (okEs_cons okE_int okEs_nil rfl) rfl) rfl rfl rfl)) (fun _ => rfl))) okEs_nil rfl) (by decide) rfl rfl rfl))) (okEs_cons (okE_callTy (T := "tuple") call_tuple_of prim_tuple rfl b_tuple (by decide +kernel) (okEs_cons (n2e (okN_lc (own := [("step", 3)]) rfl hN (okI_rng1 rfl b_range (okEs_cons (n2e (okN_add okE_int (okE_call h__law_take (hr.mono (by decide)) rfl takes_X rfl (okEs_cons (okE_var rfl (by first | exact .inl rfl | exact .inr (.inl rfl) | exact .inr (.inr rfl)) rfl rfl) (okEs_cons okE_int okEs_nil rfl) rfl) rfl rfl rfl))) okEs_nil rfl) rfl) (blkOk_by (show blkC ["pot", "sort", "own", "step", "bit"] (defScope (top 64)) _ _ = true by decide +kernel)) (okG_nameB hN rfl rfl) (by decide) (fun Y hY => by obtain ⟨s, H, C, cl, fp, rfl⟩ := hY; exact okTs_nil) (fun Y hY => by obtain ⟨s, H, C, cl, fp, rfl⟩ := hY; exact (okE_call h__law_take (hr.mono (by decide)) rfl takes_W0 rfl (okEs_cons (okE_var rfl (by first | exact .inl rfl | exact .inr (.inl rfl) | exact .inr (.inr rfl)) rfl rfl) (okEs_cons okE_int okEs_nil rfl) rfl) rfl rfl rfl)) (fun _ => rfl))) okEs_nil rfl) (by decide) rfl rfl rfl) okEs_nil rfl) rfl) (by decide)) (okG_nameX hN rfl (by first | exact .inl rfl | exact .inr rfl) (.inl rfl)) rfl rfl rfl) (okS_cons (okS_ret (okE_tup (okEs_cons (okE_var rfl (by first | exact .inl rfl | exact .inr (.inl rfl) | exact .inr (.inr rfl)) rfl rfl) (okEs_cons (n2e (okN_add (n2e (okN_add (n2e (okN_add (okE_join (okE_str (by decide +kernel)) (n2e (okN_lc (own := [("bit", 4)]) rfl hN (okI_of (okE_idx (okE_var rfl (by first | exact .inl rfl | exact .inr (.inl rfl) | exact .inr (.inr rfl)) rfl rfl) okE_int (fun _ _ => rfl))) (blkOk_by (show blkC ["pot", "sort", "own", "step", "bit"] (defScope (top 64)) _ _ = true by decide +kernel)) (okG_nameB hN rfl rfl) (by decide) (fun Y hY => by obtain ⟨s, H, C, cl, fp, rfl⟩ := hY; exact okTs_nil) (fun Y hY => by obtain ⟨s, H, C, cl, fp, rfl⟩ := hY; exact (okE_callTy (T := "str") call_str_int prim_str rfl b_str (by decide +kernel) (okEs_cons (okE_var rfl (by first | exact .inl rfl | exact .inr (.inl rfl) | exact .inr (.inr rfl)) rfl rfl) okEs_nil rfl) (by decide) rfl rfl rfl)) (fun _ => rfl))) rfl rfl rfl) (okE_str (by decide +kernel)))) (okE_join (okE_str (by decide +kernel)) (n2e (okN_lc (own := [("bit", 4)]) rfl hN (okI_of (okE_idx (okE_var rfl (by first | exact .inl rfl | exact .inr (.inl rfl) | exact .inr (.inr rfl)) rfl rfl) okE_int (fun _ _ => rfl))) (blkOk_by (show blkC ["pot", "sort", "own", "step", "bit"] (defScope (top 64)) _ _ = true by decide +kernel)) (okG_nameB hN rfl rfl) (by decide) (fun Y hY => by obtain ⟨s, H, C, cl, fp, rfl⟩ := hY; exact okTs_nil) (fun Y hY => by obtain ⟨s, H, C, cl, fp, rfl⟩ := hY; exact (okE_callTy (T := "str") call_str_int prim_str rfl b_str (by decide +kernel) (okEs_cons (okE_var rfl (by first | exact .inl rfl | exact .inr (.inl rfl) | exact .inr (.inr rfl)) rfl rfl) okEs_nil rfl) (by decide) rfl rfl rfl)) (fun _ => rfl))) rfl rfl rfl))) (okE_str (by decide +kernel)))) okEs_nil rfl) rfl) (by decide))) okS_nil)) okS_nil) (okS_cons (okS_set (okE_callTy (T := "tuple") call_tuple_of prim_tuple rfl b_tuple (by decide +kernel) (okEs_cons (n2e (okN_lc (own := [("step", 3)]) rfl hN (okI_rng1 rfl b_range (okEs_cons (okE_call h__law_take (hr.mono (by decide)) rfl takes_X rfl (okEs_cons (okE_var rfl (by first | exact .inl rfl | exact .inr (.inl rfl) | exact .inr (.inr rfl)) rfl rfl) (okEs_cons okE_int okEs_nil rfl) rfl) rfl rfl rfl) okEs_nil rfl) rfl) (blkOk_by (show blkC ["pot", "sort", "own", "step", "bit"] (defScope (top 64)) _ _ = true by decide +kernel)) (okG_nameB hN rfl rfl) (by decide) (fun Y hY => by obtain ⟨s, H, C, cl, fp, rfl⟩ := hY; exact okTs_nil) (fun Y hY => by obtain ⟨s, H, C, cl, fp, rfl⟩ := hY; exact (okE_call h__law_take (hr.mono (by decide)) rfl takes_W0 rfl (okEs_cons (okE_var rfl (by first | exact .inl rfl | exact .inr (.inl rfl) | exact .inr (.inr rfl)) rfl rfl) (okEs_cons okE_int okEs_nil rfl) rfl) rfl rfl rfl)) (fun _ => rfl))) okEs_nil rfl) (by decide) rfl rfl rfl) (okG_nameX hN rfl (by first | exact .inl rfl | exact .inr rfl) (.inl rfl)) rfl rfl rfl) (okS_cons (okS_ret (okE_tup (okEs_cons (okE_var rfl (by first | exact .inl rfl | exact .inr (.inl rfl) | exact .inr (.inr rfl)) rfl rfl) (okEs_cons (Ok.ve (ok_ife (ok_ne hr.units (okE_var rfl (by first | exact .inl rfl | exact .inr (.inl rfl) | exact .inr (.inr rfl)) rfl rfl) (okE_tup okEs_nil (by decide)) rfl) (Ok.plain (okE_join (okE_str (by decide +kernel)) (n2e (okN_lc (own := [("bit", 4)]) rfl hN (okI_of (okE_var rfl (by first | exact .inl rfl | exact .inr (.inl rfl) | exact .inr (.inr rfl)) rfl rfl)) (blkOk_by (show blkC ["pot", "sort", "own", "step", "bit"] (defScope (top 64)) _ _ = true by decide +kernel)) (okG_nameB hN rfl rfl) (by decide) (fun Y hY => by obtain ⟨s, H, C, cl, fp, rfl⟩ := hY; exact okTs_nil) (fun Y hY => by obtain ⟨s, H, C, cl, fp, rfl⟩ := hY; exact (okE_callTy (T := "str") call_str_int prim_str rfl b_str (by decide +kernel) (okEs_cons (okE_var rfl (by first | exact .inl rfl | exact .inr (.inl rfl) | exact .inr (.inr rfl)) rfl rfl) okEs_nil rfl) (by decide) rfl rfl rfl)) (fun _ => rfl))) rfl rfl rfl) (fun _ => rfl)) (Ok.plain (okE_str (by decide +kernel)) (fun _ => rfl)))) okEs_nil rfl) rfl) (by decide))) okS_nil)))))
theorem ok_law (Z : Hd K mg) {f : Addr} {fd : FuncData} (F : FunD K "law" "law" (defArgs (top 65)) (defBody (top 65)) (defScope (top 65)) [] [] f fd) : FnOk P w K mg base (L2.CX P w) 42 f fd ["script"] (spOf K 1 .v F_law) := by
  have b_range := Z.b_range
  have h__law_pot := h__law_pot (P := P) (w := w) (base := base) Z
  have h__law_same := h__law_same (P := P) (w := w) (base := base) Z
  have h__law_bent_lines := h__law_bent_lines (P := P) (w := w) (base := base) Z
  have h__law_due := h__law_due (P := P) (w := w) (base := base) Z
  have h__law_read := h__law_read (P := P) (w := w) (base := base) Z
  have h__law_shown := h__law_shown (P := P) (w := w) (base := base) Z
  have h__law_thing := h__law_thing (P := P) (w := w) (base := base) Z
  refine okFn (df := D_law) (N := ["script", "pot", "turn", "sort", "thing", "text", "again", "bent", "due"]) F (by decide +kernel) rfl rfl ?_
  intro cdv A outer s H E n0 hr
  have hN : (["script", "pot", "turn", "sort", "thing", "text", "again", "bent", "due"] : List Str).Nodup := by decide +kernel
  exact (okS_cons (okS_newE hN rfl (by first | exact .inl rfl | exact .inr rfl) (.inl rfl) (okE_call h__law_pot (hr.mono (by decide)) rfl takes_X rfl (okEs_cons (okE_var rfl (by first | exact .inl rfl | exact .inr (.inl rfl) | exact .inr (.inr rfl)) rfl rfl) okEs_nil rfl) rfl rfl rfl) rfl) (okS_cons (okS_for passes_X rfl (okI_rng1 rfl b_range (okEs_cons okE_int okEs_nil rfl) rfl) (okG_nameX hN rfl (by first | exact .inl rfl | exact .inr rfl) (.inl rfl)) (okS_cons (okS_for passes_X rfl (okI_rng1 rfl b_range (okEs_cons okE_int okEs_nil rfl) rfl) (okG_nameX hN rfl (by first | exact .inl rfl | exact .inr rfl) (.inl rfl)) (okS_cons (okS_set (okE_call h__law_thing (hr.mono (by decide)) rfl takes_X rfl (okEs_cons (okE_var rfl (by first | exact .inl rfl | exact .inr (.inl rfl) | exact .inr (.inr rfl)) rfl rfl) (okEs_cons (okE_var rfl (by first | exact .inl rfl | exact .inr (.inl rfl) | exact .inr (.inr rfl)) rfl rfl) okEs_nil rfl) rfl) rfl rfl rfl) (okG_tup (fun Y hY => by cases hY; rfl) (fun Y hY => by cases hY; rfl) (okGs_cons (okG_nameX hN rfl (by first | exact .inl rfl | exact .inr rfl) (.inl rfl)) (okGs_cons (okG_nameX hN rfl (by first | exact .inl rfl | exact .inr rfl) (.inl rfl)) okGs_nil (fun Y hY => by cases hY; rfl)) (fun Y hY => by cases hY; rfl)) (fun Y hY => by cases hY; rfl) (fun Y hY => by cases hY; rfl)) rfl rfl rfl) (okS_cons (okS_if (Ok.te (ok_not (Ok.plain (okE_call h__law_same (hr.mono (by decide)) rfl takes_X rfl (okEs_cons (n2e (okN_lst (okEs_cons (okE_call h__law_shown (hr.mono (by decide)) rfl takes_X rfl (okEs_cons (okE_var rfl (by first | exact .inl rfl | exact .inr (.inl rfl) | exact .inr (.inr rfl)) rfl rfl) (okEs_cons (okE_var rfl (by first | exact .inl rfl | exact .inr (.inl rfl) | exact .inr (.inr rfl)) rfl rfl) okEs_nil rfl) rfl) rfl rfl rfl) (okEs_cons (okE_call h__law_read (hr.mono (by decide)) rfl takes_X rfl (okEs_cons (okE_var rfl (by first | exact .inl rfl | exact .inr (.inl rfl) | exact .inr (.inr rfl)) rfl rfl) (okEs_cons (okE_var rfl (by first | exact .inl rfl | exact .inr (.inl rfl) | exact .inr (.inr rfl)) rfl rfl) (okEs_cons okE_bl okEs_nil rfl) rfl) rfl) rfl rfl rfl) (okEs_cons (okE_call h__law_due (hr.mono (by decide)) rfl takes_X rfl (okEs_cons (okE_var rfl (by first | exact .inl rfl | exact .inr (.inl rfl) | exact .inr (.inr rfl)) rfl rfl) (okEs_cons (okE_var rfl (by first | exact .inl rfl | exact .inr (.inl rfl) | exact .inr (.inr rfl)) rfl rfl) okEs_nil rfl) rfl) rfl rfl rfl) okEs_nil rfl) rfl) rfl) (by decide))) (okEs_cons (n2e (okN_lst (okEs_cons (okE_var rfl (by first | exact .inl rfl | exact .inr (.inl rfl) | exact .inr (.inr rfl)) rfl rfl) (okEs_cons (okE_tup (okEs_cons okE_bl (okEs_cons (okE_var rfl (by first | exact .inl rfl | exact .inr (.inl rfl) | exact .inr (.inr rfl)) rfl rfl) okEs_nil rfl) rfl) (by decide)) (okEs_cons (okE_tup (okEs_cons okE_bl (okEs_cons (okE_var rfl (by first | exact .inl rfl | exact .inr (.inl rfl) | exact .inr (.inr rfl)) rfl rfl) okEs_nil rfl) rfl) (by decide)) okEs_nil rfl) rfl) rfl) (by decide))) okEs_nil rfl) rfl) rfl rfl rfl) (fun _ => rfl)))) (okS_cons (okS_ret okE_bl) okS_nil) okS_nil) (okS_cons (okS_for passes_X rfl (okI_rng1 rfl b_range (okEs_cons okE_int okEs_nil rfl) rfl) (okG_nameX hN rfl (by first | exact .inl rfl | exact .inr rfl) (.inl rfl)) (okS_cons (okS_set (okE_call h__law_bent_lines (hr.mono (by decide)) rfl takes_X rfl (okEs_cons (okE_var rfl (by first | exact .inl rfl | exact .inr (.inl rfl) | exact .inr (.inr rfl)) rfl rfl) (okEs_cons (okE_var rfl (by first | exact .inl rfl | exact .inr (.inl rfl) | exact .inr (.inr rfl)) rfl rfl) okEs_nil rfl) rfl) rfl rfl rfl) (okG_nameX hN rfl (by first | exact .inl rfl | exact .inr rfl) (.inl rfl)) rfl rfl rfl) (okS_cons (okS_set (okE_call h__law_due (hr.mono (by decide)) rfl takes_X rfl (okEs_cons (okE_var rfl (by first | exact .inl rfl | exact .inr (.inl rfl) | exact .inr (.inr rfl)) rfl rfl) (okEs_cons (okE_var rfl (by first | exact .inl rfl | exact .inr (.inl rfl) | exact .inr (.inr rfl)) rfl rfl) okEs_nil rfl) rfl) rfl rfl rfl) (okG_nameX hN rfl (by first | exact .inl rfl | exact .inr rfl) (.inl rfl)) rfl rfl rfl) (okS_cons (okS_if (Ok.te (ok_not (Ok.plain (okE_call h__law_same (hr.mono (by decide)) rfl takes_X rfl (okEs_cons (n2e (okN_lst (okEs_cons (okE_call h__law_read (hr.mono (by decide)) rfl takes_X rfl (okEs_cons (okE_var rfl (by first | exact .inl rfl | exact .inr (.inl rfl) | exact .inr (.inr rfl)) rfl rfl) (okEs_cons (okE_var rfl (by first | exact .inl rfl | exact .inr (.inl rfl) | exact .inr (.inr rfl)) rfl rfl) (okEs_cons okE_bl okEs_nil rfl) rfl) rfl) rfl rfl rfl) (okEs_cons (okE_call h__law_read (hr.mono (by decide)) rfl takes_X rfl (okEs_cons (okE_var rfl (by first | exact .inl rfl | exact .inr (.inl rfl) | exact .inr (.inr rfl)) rfl rfl) (okEs_cons (okE_var rfl (by first | exact .inl rfl | exact .inr (.inl rfl) | exact .inr (.inr rfl)) rfl rfl) (okEs_cons okE_bl okEs_nil rfl) rfl) rfl) rfl rfl rfl) okEs_nil rfl) rfl) (by decide))) (okEs_cons (n2e (okN_lst (okEs_cons (okE_var rfl (by first | exact .inl rfl | exact .inr (.inl rfl) | exact .inr (.inr rfl)) rfl rfl) (okEs_cons (okE_var rfl (by first | exact .inl rfl | exact .inr (.inl rfl) | exact .inr (.inr rfl)) rfl rfl) okEs_nil rfl) rfl) (by decide))) okEs_nil rfl) rfl) rfl rfl rfl) (fun _ => rfl)))) (okS_cons (okS_ret okE_bl) okS_nil) okS_nil) (okS_cons (okS_if (Ok.te (OkW.ok (ok_and (Ok.plain (okE_idx (okE_var rfl (by first | exact .inl rfl | exact .inr (.inl rfl) | exact .inr (.inr rfl)) rfl rfl) okE_int (fun _ _ => rfl)) (fun _ => rfl)) (ok_and (OkW.ok (ok_or (ok_ne hr.units (okE_var rfl (by first | exact .inl rfl | exact .inr (.inl rfl) | exact .inr (.inr rfl)) rfl rfl) okE_int rfl) (ok_or1 (ok_eq hr.units (n2e (okN_slHi (okE_idx (okE_idx (okE_var rfl (by first | exact .inl rfl | exact .inr (.inl rfl) | exact .inr (.inr rfl)) rfl rfl) okE_int (fun _ _ => rfl)) okE_int (fun _ _ => rfl)) okE_int)) (okE_tup (okEs_cons okE_int okEs_nil rfl) (by decide)) rfl)))) (ok_and1 (ok_not (Ok.plain (okE_call h__law_same (hr.mono (by decide)) rfl takes_X rfl (okEs_cons (okE_call h__law_shown (hr.mono (by decide)) rfl takes_X rfl (okEs_cons (okE_var rfl (by first | exact .inl rfl | exact .inr (.inl rfl) | exact .inr (.inr rfl)) rfl rfl) (okEs_cons (okE_idx (okE_var rfl (by first | exact .inl rfl | exact .inr (.inl rfl) | exact .inr (.inr rfl)) rfl rfl) okE_int (fun _ _ => rfl)) okEs_nil rfl) rfl) rfl rfl rfl) (okEs_cons (okE_var rfl (by first | exact .inl rfl | exact .inr (.inl rfl) | exact .inr (.inr rfl)) rfl rfl) okEs_nil rfl) rfl) rfl rfl rfl) (fun _ => rfl)))))))) (okS_cons (okS_ret okE_bl) okS_nil) okS_nil) okS_nil)))) (fun _ => rfl)) okS_nil))) (fun _ => rfl)) okS_nil) (fun _ => rfl)) (okS_cons (okS_ret okE_bl) okS_nil)))
end
end Lw

set_option Elab.async false
set_option linter.all false
set_option maxRecDepth 100000
set_option maxHeartbeats 0
namespace Lw
open PySem PySem.Spec PyProof.Rows L2 Wp
def dd (x : Str) (i : Nat) : He.DefD := ⟨(x, none), x, x, defArgs (top i), defBody (top i), defScope (top i), [], []⟩
def fn : List He.DefD := ([dd "is_integer" 7, dd "is_pair" 8, dd "lowest" 9, dd "is_number_of" 10, dd "sum_of_two" 11, dd "sum_of_all" 12, dd "is_number" 14, dd "is_shares_of" 15, dd "is_shares" 16, dd "joined" 19, dd "show_number" 20, dd "show_shares" 21, dd "show_figures" 22, dd "show_tosses" 23, dd "integer_of" 27, dd "whole" 28, dd "number_of" 29, dd "shares_of" 30, dd "signs_of" 31, dd "figures_of" 32, dd "tosses_of" 33, dd "only" 34, dd "read_number" 35, dd "read_shares" 36, dd "read_figures" 37, dd "read_tosses" 38, dd "_law_pot" 40, dd "_law_take" 41, dd "_law_same" 42, dd "_law_divisor" 43] : List He.DefD) ++ ([dd "_law_low" 44, dd "_law_add" 45, dd "_law_show" 46, dd "_law_summed" 47, dd "_law_numbers_text" 48, dd "_law_natural" 49, dd "_law_part_in" 50, dd "_law_all_in" 51, dd "_law_bent_lines" 52, dd "_law_one_line" 53, dd "_law_big" 54, dd "_law_big_number" 55, dd "_law_shares_in" 56, dd "_law_bits" 57, dd "_law_figures_in" 58, dd "_law_tosses_in" 59, dd "_law_due" 60, dd "_law_read" 61, dd "_law_shown" 62, dd "_law_great_shares" 63, dd "_law_thing" 64, dd "law" 65] : List He.DefD) ++ [⟨("TossError", some "__init__"), "__init__", "TossError.__init__", defArgs ini, defBody ini, defScope ini, [], []⟩]
def fa : List He.Fa := ([.glo "is_integer", .glo "is_pair", .glo "lowest", .glo "is_number_of", .glo "sum_of_two", .glo "sum_of_all", .glo "is_number", .glo "is_shares_of", .glo "is_shares", .glo "joined", .glo "show_number", .glo "show_shares", .glo "show_figures", .glo "show_tosses", .glo "integer_of", .glo "whole", .glo "number_of", .glo "shares_of", .glo "signs_of", .glo "figures_of", .glo "tosses_of", .glo "only", .glo "read_number", .glo "read_shares", .glo "read_figures", .glo "read_tosses", .glo "_law_pot", .glo "_law_take", .glo "_law_same", .glo "_law_divisor"] : List He.Fa) ++ ([.glo "_law_low", .glo "_law_add", .glo "_law_show", .glo "_law_summed", .glo "_law_numbers_text", .glo "_law_natural", .glo "_law_part_in", .glo "_law_all_in", .glo "_law_bent_lines", .glo "_law_one_line", .glo "_law_big", .glo "_law_big_number", .glo "_law_shares_in", .glo "_law_bits", .glo "_law_figures_in", .glo "_law_tosses_in", .glo "_law_due", .glo "_law_read", .glo "_law_shown", .glo "_law_great_shares", .glo "_law_thing", .glo "law", .glo "ONE", .glo "ZERO", .glo "Unreadable", .free "abs", .free "all", .free "any", .free "bool", .free "int"] : List He.Fa) ++ ([.free "isinstance", .free "len", .free "list", .free "max", .free "range", .free "str", .free "sum", .free "tuple", .free "ValueError", .str "DIGITS" "0123456789", .str "NONE" "-", .int "MOST_DIGITS" 30] : List He.Fa)
def exf (K : PySem.W.Frag) : Bool := (bltB K "gcd" "math.gcd") && (He.tupB K "ONE" [.int 1, .int 1]) && (He.tupB K "ZERO" [.int 0, .int 1]) && (ownB K "Unreadable" "TossError") && (veB K)
abbrev R : PySem.W.OpenRow := PySem.W.OpenLaw.row PySem.Challenge.rw_wholeplays_k60_whole_texts_of_numbers_sh
abbrev hk : PySem.W.Hook := hookX exf 5 fa fn
def ob (s : PySem.W.SharedT) : AlX := obsX exf 5 fa fn (HandSHeadRun.getT s)
theorem ob_eq (s : PySem.W.SharedT) : ob s = hk.obs s.abs := obsX_eq (HandSHeadRun.getT_eq s)
def loose : List Str := (["TossError", "Unreadable", "ZERO", "ONE", "is_integer", "is_pair", "lowest", "is_number_of", "sum_of_two", "sum_of_all", "is_number", "is_shares_of", "is_shares", "NONE", "joined", "show_number", "show_shares", "show_figures", "show_tosses", "DIGITS", "MOST_DIGITS", "integer_of", "whole", "number_of", "shares_of", "signs_of", "figures_of", "tosses_of", "only", "read_number"] : List Str) ++ (["read_shares", "read_figures", "read_tosses", "_law_pot", "_law_take", "_law_same", "_law_divisor", "_law_low", "_law_add", "_law_show", "_law_summed", "_law_numbers_text", "_law_natural", "_law_part_in", "_law_all_in", "_law_bent_lines", "_law_one_line", "_law_big", "_law_big_number", "_law_shares_in", "_law_bits", "_law_figures_in", "_law_tosses_in", "_law_due", "_law_read", "_law_shown", "_law_great_shares", "_law_thing"] : List Str)
theorem run (w : World) : HandSHeadRun.RunEqI R (PySem.W.view R.prog [0, 65]) hk ob 3000 loose w := by
  unfold HandSHeadRun.RunEqI
  kernel_rfl
theorem hd {K : PySem.W.Frag} {h : Heap} {mg : Str → Option Value} (X : K.In h) (G : h.Ns mainGlobals mg) (e : exf K = true) (c : He.SaysD fa fn K) : Hd K mg := by
  unfold exf at e
  simp only [Bool.and_eq_true] at e
  constructor
  · obtain ⟨fd, F⟩ := c.def_ 0 (d := dd "is_integer" 7) rfl
    exact ⟨fd, _, He.glo_ok X G (c.fact 0 (f := .glo "is_integer") rfl), F⟩
  · obtain ⟨fd, F⟩ := c.def_ 1 (d := dd "is_pair" 8) rfl
    exact ⟨fd, _, He.glo_ok X G (c.fact 1 (f := .glo "is_pair") rfl), F⟩
  · obtain ⟨fd, F⟩ := c.def_ 2 (d := dd "lowest" 9) rfl
    exact ⟨fd, _, He.glo_ok X G (c.fact 2 (f := .glo "lowest") rfl), F⟩
  · obtain ⟨fd, F⟩ := c.def_ 3 (d := dd "is_number_of" 10) rfl
    exact ⟨fd, _, He.glo_ok X G (c.fact 3 (f := .glo "is_number_of") rfl), F⟩
  · obtain ⟨fd, F⟩ := c.def_ 4 (d := dd "sum_of_two" 11) rfl
    exact ⟨fd, _, He.glo_ok X G (c.fact 4 (f := .glo "sum_of_two") rfl), F⟩
  · obtain ⟨fd, F⟩ := c.def_ 5 (d := dd "sum_of_all" 12) rfl
    exact ⟨fd, _, He.glo_ok X G (c.fact 5 (f := .glo "sum_of_all") rfl), F⟩
  · obtain ⟨fd, F⟩ := c.def_ 6 (d := dd "is_number" 14) rfl
    exact ⟨fd, _, He.glo_ok X G (c.fact 6 (f := .glo "is_number") rfl), F⟩
  · obtain ⟨fd, F⟩ := c.def_ 7 (d := dd "is_shares_of" 15) rfl
    exact ⟨fd, _, He.glo_ok X G (c.fact 7 (f := .glo "is_shares_of") rfl), F⟩
  · obtain ⟨fd, F⟩ := c.def_ 8 (d := dd "is_shares" 16) rfl
    exact ⟨fd, _, He.glo_ok X G (c.fact 8 (f := .glo "is_shares") rfl), F⟩
  · obtain ⟨fd, F⟩ := c.def_ 9 (d := dd "joined" 19) rfl
    exact ⟨fd, _, He.glo_ok X G (c.fact 9 (f := .glo "joined") rfl), F⟩
  · obtain ⟨fd, F⟩ := c.def_ 10 (d := dd "show_number" 20) rfl
    exact ⟨fd, _, He.glo_ok X G (c.fact 10 (f := .glo "show_number") rfl), F⟩
  · obtain ⟨fd, F⟩ := c.def_ 11 (d := dd "show_shares" 21) rfl
    exact ⟨fd, _, He.glo_ok X G (c.fact 11 (f := .glo "show_shares") rfl), F⟩
  · obtain ⟨fd, F⟩ := c.def_ 12 (d := dd "show_figures" 22) rfl
    exact ⟨fd, _, He.glo_ok X G (c.fact 12 (f := .glo "show_figures") rfl), F⟩
  · obtain ⟨fd, F⟩ := c.def_ 13 (d := dd "show_tosses" 23) rfl
    exact ⟨fd, _, He.glo_ok X G (c.fact 13 (f := .glo "show_tosses") rfl), F⟩
  · obtain ⟨fd, F⟩ := c.def_ 14 (d := dd "integer_of" 27) rfl
    exact ⟨fd, _, He.glo_ok X G (c.fact 14 (f := .glo "integer_of") rfl), F⟩
  · obtain ⟨fd, F⟩ := c.def_ 15 (d := dd "whole" 28) rfl
    exact ⟨fd, _, He.glo_ok X G (c.fact 15 (f := .glo "whole") rfl), F⟩
  · obtain ⟨fd, F⟩ := c.def_ 16 (d := dd "number_of" 29) rfl
    exact ⟨fd, _, He.glo_ok X G (c.fact 16 (f := .glo "number_of") rfl), F⟩
  · obtain ⟨fd, F⟩ := c.def_ 17 (d := dd "shares_of" 30) rfl
    exact ⟨fd, _, He.glo_ok X G (c.fact 17 (f := .glo "shares_of") rfl), F⟩
  · obtain ⟨fd, F⟩ := c.def_ 18 (d := dd "signs_of" 31) rfl
    exact ⟨fd, _, He.glo_ok X G (c.fact 18 (f := .glo "signs_of") rfl), F⟩
  · obtain ⟨fd, F⟩ := c.def_ 19 (d := dd "figures_of" 32) rfl
    exact ⟨fd, _, He.glo_ok X G (c.fact 19 (f := .glo "figures_of") rfl), F⟩
  · obtain ⟨fd, F⟩ := c.def_ 20 (d := dd "tosses_of" 33) rfl
    exact ⟨fd, _, He.glo_ok X G (c.fact 20 (f := .glo "tosses_of") rfl), F⟩
  · obtain ⟨fd, F⟩ := c.def_ 21 (d := dd "only" 34) rfl
    exact ⟨fd, _, He.glo_ok X G (c.fact 21 (f := .glo "only") rfl), F⟩
  · obtain ⟨fd, F⟩ := c.def_ 22 (d := dd "read_number" 35) rfl
    exact ⟨fd, _, He.glo_ok X G (c.fact 22 (f := .glo "read_number") rfl), F⟩
  · obtain ⟨fd, F⟩ := c.def_ 23 (d := dd "read_shares" 36) rfl
    exact ⟨fd, _, He.glo_ok X G (c.fact 23 (f := .glo "read_shares") rfl), F⟩
  · obtain ⟨fd, F⟩ := c.def_ 24 (d := dd "read_figures" 37) rfl
    exact ⟨fd, _, He.glo_ok X G (c.fact 24 (f := .glo "read_figures") rfl), F⟩
  · obtain ⟨fd, F⟩ := c.def_ 25 (d := dd "read_tosses" 38) rfl
    exact ⟨fd, _, He.glo_ok X G (c.fact 25 (f := .glo "read_tosses") rfl), F⟩
  · obtain ⟨fd, F⟩ := c.def_ 26 (d := dd "_law_pot" 40) rfl
    exact ⟨fd, _, He.glo_ok X G (c.fact 26 (f := .glo "_law_pot") rfl), F⟩
  · obtain ⟨fd, F⟩ := c.def_ 27 (d := dd "_law_take" 41) rfl
    exact ⟨fd, _, He.glo_ok X G (c.fact 27 (f := .glo "_law_take") rfl), F⟩
  · obtain ⟨fd, F⟩ := c.def_ 28 (d := dd "_law_same" 42) rfl
    exact ⟨fd, _, He.glo_ok X G (c.fact 28 (f := .glo "_law_same") rfl), F⟩
  · obtain ⟨fd, F⟩ := c.def_ 29 (d := dd "_law_divisor" 43) rfl
    exact ⟨fd, _, He.glo_ok X G (c.fact 29 (f := .glo "_law_divisor") rfl), F⟩
  · obtain ⟨fd, F⟩ := c.def_ 30 (d := dd "_law_low" 44) rfl
    exact ⟨fd, _, He.glo_ok X G (c.fact 30 (f := .glo "_law_low") rfl), F⟩
  · obtain ⟨fd, F⟩ := c.def_ 31 (d := dd "_law_add" 45) rfl
    exact ⟨fd, _, He.glo_ok X G (c.fact 31 (f := .glo "_law_add") rfl), F⟩
  · obtain ⟨fd, F⟩ := c.def_ 32 (d := dd "_law_show" 46) rfl
    exact ⟨fd, _, He.glo_ok X G (c.fact 32 (f := .glo "_law_show") rfl), F⟩
  · obtain ⟨fd, F⟩ := c.def_ 33 (d := dd "_law_summed" 47) rfl
    exact ⟨fd, _, He.glo_ok X G (c.fact 33 (f := .glo "_law_summed") rfl), F⟩
  · obtain ⟨fd, F⟩ := c.def_ 34 (d := dd "_law_numbers_text" 48) rfl
    exact ⟨fd, _, He.glo_ok X G (c.fact 34 (f := .glo "_law_numbers_text") rfl), F⟩
  · obtain ⟨fd, F⟩ := c.def_ 35 (d := dd "_law_natural" 49) rfl
    exact ⟨fd, _, He.glo_ok X G (c.fact 35 (f := .glo "_law_natural") rfl), F⟩
  · obtain ⟨fd, F⟩ := c.def_ 36 (d := dd "_law_part_in" 50) rfl
    exact ⟨fd, _, He.glo_ok X G (c.fact 36 (f := .glo "_law_part_in") rfl), F⟩
  · obtain ⟨fd, F⟩ := c.def_ 37 (d := dd "_law_all_in" 51) rfl
    exact ⟨fd, _, He.glo_ok X G (c.fact 37 (f := .glo "_law_all_in") rfl), F⟩
  · obtain ⟨fd, F⟩ := c.def_ 38 (d := dd "_law_bent_lines" 52) rfl
    exact ⟨fd, _, He.glo_ok X G (c.fact 38 (f := .glo "_law_bent_lines") rfl), F⟩
  · obtain ⟨fd, F⟩ := c.def_ 42 (d := dd "_law_shares_in" 56) rfl
    exact ⟨fd, _, He.glo_ok X G (c.fact 42 (f := .glo "_law_shares_in") rfl), F⟩
  · obtain ⟨fd, F⟩ := c.def_ 43 (d := dd "_law_bits" 57) rfl
    exact ⟨fd, _, He.glo_ok X G (c.fact 43 (f := .glo "_law_bits") rfl), F⟩
  · obtain ⟨fd, F⟩ := c.def_ 44 (d := dd "_law_figures_in" 58) rfl
    exact ⟨fd, _, He.glo_ok X G (c.fact 44 (f := .glo "_law_figures_in") rfl), F⟩
  · obtain ⟨fd, F⟩ := c.def_ 45 (d := dd "_law_tosses_in" 59) rfl
    exact ⟨fd, _, He.glo_ok X G (c.fact 45 (f := .glo "_law_tosses_in") rfl), F⟩
  · obtain ⟨fd, F⟩ := c.def_ 39 (d := dd "_law_one_line" 53) rfl
    exact ⟨fd, _, He.glo_ok X G (c.fact 39 (f := .glo "_law_one_line") rfl), F⟩
  · obtain ⟨fd, F⟩ := c.def_ 40 (d := dd "_law_big" 54) rfl
    exact ⟨fd, _, He.glo_ok X G (c.fact 40 (f := .glo "_law_big") rfl), F⟩
  · obtain ⟨fd, F⟩ := c.def_ 41 (d := dd "_law_big_number" 55) rfl
    exact ⟨fd, _, He.glo_ok X G (c.fact 41 (f := .glo "_law_big_number") rfl), F⟩
  · obtain ⟨fd, F⟩ := c.def_ 46 (d := dd "_law_due" 60) rfl
    exact ⟨fd, _, He.glo_ok X G (c.fact 46 (f := .glo "_law_due") rfl), F⟩
  · obtain ⟨fd, F⟩ := c.def_ 47 (d := dd "_law_read" 61) rfl
    exact ⟨fd, _, He.glo_ok X G (c.fact 47 (f := .glo "_law_read") rfl), F⟩
  · obtain ⟨fd, F⟩ := c.def_ 48 (d := dd "_law_shown" 62) rfl
    exact ⟨fd, _, He.glo_ok X G (c.fact 48 (f := .glo "_law_shown") rfl), F⟩
  · obtain ⟨fd, F⟩ := c.def_ 49 (d := dd "_law_great_shares" 63) rfl
    exact ⟨fd, _, He.glo_ok X G (c.fact 49 (f := .glo "_law_great_shares") rfl), F⟩
  · obtain ⟨fd, F⟩ := c.def_ 50 (d := dd "_law_thing" 64) rfl
    exact ⟨fd, _, He.glo_ok X G (c.fact 50 (f := .glo "_law_thing") rfl), F⟩
  · obtain ⟨fd, F⟩ := c.def_ 51 (d := dd "law" 65) rfl
    exact ⟨fd, _, He.glo_ok X G (c.fact 51 (f := .glo "law") rfl), F⟩
  · exact He.free_ok X G (c.fact 55 (f := .free "abs") rfl)
  · exact He.free_ok X G (c.fact 56 (f := .free "all") rfl)
  · exact He.free_ok X G (c.fact 57 (f := .free "any") rfl)
  · exact He.free_ok X G (c.fact 58 (f := .free "bool") rfl)
  · exact bltB_ok X G e.1.1.1.1
  · exact He.free_ok X G (c.fact 59 (f := .free "int") rfl)
  · exact He.free_ok X G (c.fact 60 (f := .free "isinstance") rfl)
  · exact He.free_ok X G (c.fact 61 (f := .free "len") rfl)
  · exact He.free_ok X G (c.fact 62 (f := .free "list") rfl)
  · exact He.free_ok X G (c.fact 63 (f := .free "max") rfl)
  · exact He.free_ok X G (c.fact 64 (f := .free "range") rfl)
  · exact He.free_ok X G (c.fact 65 (f := .free "str") rfl)
  · exact He.free_ok X G (c.fact 66 (f := .free "sum") rfl)
  · exact He.free_ok X G (c.fact 67 (f := .free "tuple") rfl)
  · obtain ⟨t, e2⟩ := He.str_ok X G (c.fact 69 (f := .str "DIGITS" "0123456789") rfl)
    exact ⟨_, e2, ⟨t, rfl⟩⟩
  · exact rep_str (by decide +kernel)
  · obtain ⟨t, e2⟩ := He.int_ok X G (c.fact 71 (f := .int "MOST_DIGITS" 30) rfl)
    exact ⟨_, e2, ⟨t, rfl⟩⟩
  · exact rep_int
  · obtain ⟨t, e2⟩ := He.str_ok X G (c.fact 70 (f := .str "NONE" "-") rfl)
    exact ⟨_, e2, ⟨t, rfl⟩⟩
  · exact rep_str (by decide +kernel)
  · exact ⟨_, He.glo_ok X G (c.fact 52 (f := .glo "ONE") rfl), rfl⟩
  · exact rep_ctup e.1.1.1.2 fun F => (.cons (.int _) (.cons (.int _) .nil))
  · exact ⟨_, He.glo_ok X G (c.fact 53 (f := .glo "ZERO") rfl), rfl⟩
  · exact rep_ctup e.1.1.2 fun F => (.cons (.int _) (.cons (.int _) .nil))
  · exact He.glo_ok X G (c.fact 44 (f := .glo "_law_figures_in") rfl)
  · exact He.glo_ok X G (c.fact 36 (f := .glo "_law_part_in") rfl)
  · exact He.glo_ok X G (c.fact 42 (f := .glo "_law_shares_in") rfl)
  · exact He.glo_ok X G (c.fact 45 (f := .glo "_law_tosses_in") rfl)
  · exact He.glo_ok X G (c.fact 19 (f := .glo "figures_of") rfl)
  · exact He.glo_ok X G (c.fact 16 (f := .glo "number_of") rfl)
  · exact He.glo_ok X G (c.fact 17 (f := .glo "shares_of") rfl)
  · exact He.glo_ok X G (c.fact 20 (f := .glo "tosses_of") rfl)
  · exact He.glo_ok X G (c.fact 54 (f := .glo "Unreadable") rfl)
  · exact e.1.2
  · exact c.def_ 52 rfl
  · exact He.free_ok X G (c.fact 68 (f := .free "ValueError") rfl)
  · exact e.2
end Lw

set_option linter.all false
set_option maxRecDepth 100000
/-! G0: plain lemmas about the small language, for all laws. -/
namespace Wp
/-- a fraction as the program has it -/
def fr (r : Rat) : D := .tup [.int r.num, .int (r.den : Int)]
theorem log_of {n k : Nat} (h : n < 2 ^ k) (hk : 0 < k) : n.log2 < k := by
  by_cases hn : n = 0
  · subst hn; simpa using hk
  · exact (Nat.log2_lt hn).mpr h
theorem divOk_of {b : Int} (h0 : b ≠ 0) (h : b.natAbs < 2 ^ 9000) : divOk b = true := by
  unfold divOk
  rw [Bool.and_eq_true, decide_eq_true_eq, decide_eq_true_eq]
  exact ⟨h0, log_of h (by omega)⟩
theorem mulOk_of {a b : Int} (k l : Nat) (h : a.natAbs < 2 ^ k) (h' : b.natAbs < 2 ^ l) (hk : 0 < k) (hl : 0 < l) (hkl : k + l < 1000000) : mulOk a b = true := by
  unfold mulOk
  rw [decide_eq_true_eq]
  have := log_of h hk
  have := log_of h' hl
  omega
theorem bind_ok {α β : Type} (a : α) (μ : Mu) (k : α → Mu → Res β) : (Res.ok a μ).bind k = k a μ := rfl
theorem st_ok {α : Type} (a : α) (μ : Mu) (ρ : Env) (k : α → Mu → Out) : (Res.ok a μ).st ρ k = k a μ := rfl
theorem seq_nx (ρ : Env) (μ : Mu) (k : Env → Mu → Out) : (Out.nx ρ μ).seq k = k ρ μ := rfl
theorem seq_ret (d : D) (μ : Mu) (k : Env → Mu → Out) : (Out.ret d μ).seq k = .ret d μ := rfl
theorem seq_brk (ρ : Env) (μ : Mu) (k : Env → Mu → Out) : (Out.brk ρ μ).seq k = .brk ρ μ := rfl
theorem seq_cnt (ρ : Env) (μ : Mu) (k : Env → Mu → Out) : (Out.cnt ρ μ).seq k = .cnt ρ μ := rfl
theorem optR_some {α : Type} (a : α) (μ : Mu) : optR (some a) μ = .ok a μ := rfl
theorem at0 {α : Type} (x : α) (l : List α) : atI (x :: l) 0 = some x := by
  unfold atI ixN
  rw [if_pos (by omega), if_pos (by simp only [List.length_cons]; omega)]; rfl
theorem at1 {α : Type} (x y : α) (l : List α) : atI (x :: y :: l) 1 = some y := by
  unfold atI ixN
  rw [if_pos (by omega), if_pos (by simp only [List.length_cons]; omega)]; rfl
theorem at2 {α : Type} (x y z : α) (l : List α) : atI (x :: y :: z :: l) 2 = some z := by
  unfold atI ixN
  rw [if_pos (by omega), if_pos (by simp only [List.length_cons]; omega)]; rfl
theorem atN {α : Type} (l : List α) (n : Nat) : atI l (n : Int) = l[n]? := by
  unfold atI ixN
  rw [if_pos (by omega)]
  split
  · rfl
  · rw [List.getElem?_eq_none (by omega)]; rfl
theorem ix0 (n : Nat) : ixN (n + 1) 0 = some 0 := by unfold ixN; rw [if_pos (by omega), if_pos (by omega)]; rfl
theorem ix1 (n : Nat) : ixN (n + 1 + 1) 1 = some 1 := by unfold ixN; rw [if_pos (by omega), if_pos (by omega)]; rfl
theorem ix2 (n : Nat) : ixN (n + 1 + 1 + 1) 2 = some 2 := by unfold ixN; rw [if_pos (by omega), if_pos (by omega)]; rfl
/-- the drawing from the script -/
def Dtake (c1 c2 c3 c4 c5 c6 : Int) : Df := ⟨5, 0, [(.ife (.and (.prim .eq [(.prim .idx [(.var 0), (.k (.int 0))]), (.k (.int 0))]) (.prim .lt [(.prim .idx [(.var 0), (.k (.int 2))]), (.prim .len [(.var 0)])])) [(.set (.n 2) (.prim .idx [(.var 0), (.prim .idx [(.var 0), (.k (.int 2))])])),
  (.augL (.var 0) (.k (.int 2)) .iadd (.k (.int 1))),
  (.ife (.prim .ge [(.var 2), (.prim .pow [(.k (.int 10)), (.k (.int 18))])]) [(.updL (.var 0) (.k (.int 0)) (.prim .sub [(.var 2), (.prim .pow [(.k (.int 10)), (.k (.int 18))])]))] [(.set (.n 4) (.prim .mod [(.prim .int [(.var 2)]), (.k (.int 2147483647))])),
  (.set (.n 4) (.prim .mod [(.prim .int [(.prim .add [(.prim .add [(.prim .mul [(.var 4), (.var 4)]), (.prim .mul [(.k (.int c1)), (.var 4)])]), (.prim .mul [(.k (.int c2)), (.prim .idx [(.var 0), (.k (.int 2))])])])]), (.k (.int 2147483629))])),
  (.updL (.var 0) (.k (.int 1)) (.prim .mod [(.prim .int [(.prim .add [(.prim .idx [(.var 0), (.k (.int 1))]), (.var 4)])]), (.k (.int 2147483629))]))])] []),
  (.ife (.prim .gt [(.prim .idx [(.var 0), (.k (.int 0))]), (.k (.int 0))]) [(.set (.n 3) (.prim .mod [(.prim .int [(.prim .idx [(.var 0), (.k (.int 0))])]), (.var 1)])),
  (.updL (.var 0) (.k (.int 0)) (.prim .fdiv [(.prim .idx [(.var 0), (.k (.int 0))]), (.var 1)])),
  (.ret (.var 3))] []),
  (.updL (.var 0) (.k (.int 1)) (.prim .mod [(.prim .int [(.prim .add [(.prim .add [(.prim .mul [(.prim .idx [(.var 0), (.k (.int 1))]), (.k (.int c3))]), (.prim .mul [(.k (.int c4)), (.prim .idx [(.var 0), (.k (.int 2))])])]), (.k (.int c5))])]), (.k (.int 2147483647))])),
  (.updL (.var 0) (.k (.int 1)) (.prim .mod [(.prim .int [(.prim .add [(.prim .mul [(.prim .idx [(.var 0), (.k (.int 1))]), (.prim .idx [(.var 0), (.k (.int 1))])]), (.k (.int c6))])]), (.k (.int 2147483629))])),
  (.ret (.prim .mod [(.prim .int [(.prim .fdiv [(.prim .idx [(.var 0), (.k (.int 1))]), (.k (.int 16))])]), (.var 1)]))]⟩
/-- what the pot may hold -/
def Pot (l : List D) : Prop := ∃ (a b c : Int) (ns : List Int), l = .int a :: .int b :: .int c :: ns.map .int ∧ 0 ≤ a ∧ 0 ≤ b ∧ b < 2147483648 ∧ 3 ≤ c ∧ c ≤ 3 + 63 ∧ ns.length ≤ 63
def PotAt (μ : Mu) (n : Nat) : Prop := ∃ l, μ[n]? = some ⟨false, .lst l⟩ ∧ Pot l
end Wp

set_option linter.all false
set_option maxRecDepth 100000
namespace Wp
theorem mod_lt {x m : Int} (h : 0 < m) : 0 ≤ x.fmod m ∧ x.fmod m < m := ⟨Int.fmod_nonneg_of_pos x h, Int.fmod_lt_of_pos x h⟩
theorem okD_int (i : Int) : okD (.int i) = true := by simp [okD, D.okN]
theorem eqv_int (i j : Int) : D.eqv (.int i) (.int j) = decide (i = j) := by
  rw [D.eqv, Bool.eq_iff_iff]
  simp
theorem set_get {μ : Mu} {n : Nat} {x : Cell} (h : n < μ.length) : (μ.set n x)[n]? = some x := List.getElem?_set_self h
theorem small_mul {a b : Int} (h : a.natAbs < 2 ^ 100) (h' : b.natAbs < 2 ^ 100) : mulOk a b = true := mulOk_of 100 100 h h' (by omega) (by omega) (by omega)
theorem take_tail (c1 c2 c3 c4 c5 c6 : Int) (n0 : Nat) (μ : Mu) (n : Nat) (a b c : Int) (ns : List Int) (many : Int) (x2 x3 x4 : Option A) (hμ : μ[n]? = some ⟨false, .lst (.int a :: .int b :: .int c :: ns.map .int)⟩)
    (ha : 0 ≤ a) (hb : 0 ≤ b) (hb2 : b < 2147483648) (hc : 3 ≤ c) (hc2 : c ≤ 3 + 63) (hns : ns.length ≤ 63) (hm : 0 < many) (hm2 : many.natAbs < 2 ^ 9000) (k3 : c3.natAbs < 2 ^ 60) (k4 : c4.natAbs < 2 ^ 60) :
    ∃ r l', exs n0 ((Dtake c1 c2 c3 c4 c5 c6).body.drop 1) [some (.c n), some (.v (.int many)), x2, x3, x4] μ = .ret (.int r) (μ.set n ⟨false, .lst l'⟩) ∧ 0 ≤ r ∧ r < many ∧ Pot l' := by
  have hn : n < μ.length := (List.getElem?_eq_some_iff.mp hμ).1
  have hmz : many ≠ 0 := by omega
  have hd : divOk many = true := divOk_of hmz hm2
  by_cases h : 0 < a
  · refine ⟨a.fmod many, _, ?_, (mod_lt hm).1, (mod_lt hm).2, a.fdiv many, b, c, ns, rfl, Int.fdiv_nonneg ha (by omega), hb, hb2, hc, hc2, hns⟩
    simp [Dtake, exs, ex, ev, evs, evT, bind_ok, st_ok, seq_nx, seq_ret, optR_some, vals, dr, drs, P.f, P.f1, P.f2, asg, tru, hμ, at0, h, hmz, hd, updL, ix0]
  · have m1 : mulOk b c3 = true := small_mul (by omega) (by omega)
    have m2 : mulOk c4 c = true := small_mul (by omega) (by omega)
    have b1 := mod_lt (x := b * c3 + c4 * c + c5) (m := 2147483647) (by omega)
    generalize hx : (b * c3 + c4 * c + c5).fmod 2147483647 = x at b1
    have m3 : mulOk x x = true := small_mul (by omega) (by omega)
    have b2 := mod_lt (x := x * x + c6) (m := 2147483629) (by omega)
    generalize hy : (x * x + c6).fmod 2147483629 = y at b2
    refine ⟨(y.fdiv 16).fmod many, _, ?_, (mod_lt hm).1, (mod_lt hm).2, a, y, c, ns, rfl, ha, b2.1, by omega, hc, hc2, hns⟩
    have sg : ∀ x, (μ.set n x)[n]? = some x := fun x => set_get hn
    have d16 : divOk 16 = true := divOk_of (by omega) (by decide)
    simp [Dtake, exs, ex, ev, evs, evT, bind_ok, st_ok, seq_nx, seq_ret, optR_some, vals, dr, drs, P.f, P.f1, P.f2, asg, tru, hμ, at0, at1, at2, h, hmz, hd, updL, ix0, ix1, m1, m2, m3, hx, hy, sg, d16]
theorem take_head (c1 c2 c3 c4 c5 c6 : Int) (n0 : Nat) (μ : Mu) (n : Nat) (a b c : Int) (ns : List Int) (many : Int) (hμ : μ[n]? = some ⟨false, .lst (.int a :: .int b :: .int c :: ns.map .int)⟩)
    (ha : 0 ≤ a) (hb : 0 ≤ b) (hb2 : b < 2147483648) (hc : 3 ≤ c) (hc2 : c ≤ 3 + 63) (hns : ns.length ≤ 63) (k1 : c1.natAbs < 2 ^ 60) (k2 : c2.natAbs < 2 ^ 60) :
    ∃ x2 x4 a' b' c', exs n0 ((Dtake c1 c2 c3 c4 c5 c6).body.take 1) [some (.c n), some (.v (.int many)), none, none, none] μ = .nx [some (.c n), some (.v (.int many)), x2, none, x4] (μ.set n ⟨false, .lst (.int a' :: .int b' :: .int c' :: ns.map .int)⟩) ∧ 0 ≤ a' ∧ 0 ≤ b' ∧ b' < 2147483648 ∧ 3 ≤ c' ∧ c' ≤ 3 + 63 := by
  have hn : n < μ.length := (List.getElem?_eq_some_iff.mp hμ).1
  have sg : ∀ x, (μ.set n x)[n]? = some x := fun x => set_get hn
  have same : μ.set n ⟨false, .lst (.int a :: .int b :: .int c :: ns.map .int)⟩ = μ := by
    apply List.ext_getElem?
    intro i
    by_cases hi : n = i
    · subst hi; rw [sg, hμ]
    · rw [List.getElem?_set_ne hi]
  by_cases h : a = 0 ∧ c < (ns.length : Int) + 1 + 1 + 1
  · obtain ⟨h1, h2⟩ := h
    subst h1
    have e1 : ∃ v, atI (D.int 0 :: D.int b :: D.int c :: ns.map .int) c = some (.int v) := by
      obtain ⟨j, rfl⟩ : ∃ j : Nat, c = ((j + 3 : Nat) : Int) := ⟨(c - 3).toNat, by omega⟩
      have hj : j < ns.length := by omega
      refine ⟨ns[j], ?_⟩
      rw [atN]
      simp [hj]
    obtain ⟨v, e1⟩ := e1
    by_cases h3 : (10 : Int) ^ 18 ≤ v
    · refine ⟨some (.v (.int v)), none, v - 10 ^ 18, b, c + 1, ?_, by omega, hb, hb2, by omega, by omega⟩
      have h3' : (1000000000000000000 : Int) ≤ v := by omega
      simp [Dtake, exs, ex, ev, evs, evT, bind_ok, st_ok, seq_nx, seq_ret, optR_some, vals, dr, drs, P.f, P.f1, P.f2, asg, tru, hμ, at0, at1, at2, e1, okD_int, eqv_int, updL, lookL, ix0, ix1, ix2, sg, h2, h3']
    · have h3' : ¬ (1000000000000000000 : Int) ≤ v := by omega
      have b1 := mod_lt (x := v) (m := 2147483647) (by omega)
      generalize hx : v.fmod 2147483647 = x at b1
      have m1 : mulOk x x = true := small_mul (by omega) (by omega)
      have m2 : mulOk c1 x = true := small_mul (by omega) (by omega)
      have m3 : mulOk c2 (c + 1) = true := small_mul (by omega) (by omega)
      generalize hy : (x * x + c1 * x + c2 * (c + 1)).fmod 2147483629 = y
      have b2 := mod_lt (x := b + y) (m := 2147483629) (by omega)
      refine ⟨some (.v (.int v)), some (.v (.int y)), 0, (b + y).fmod 2147483629, c + 1, ?_, by omega, b2.1, by omega, by omega, by omega⟩
      simp [Dtake, exs, ex, ev, evs, evT, bind_ok, st_ok, seq_nx, seq_ret, optR_some, vals, dr, drs, P.f, P.f1, P.f2, asg, tru, hμ, at0, at1, at2, e1, okD_int, eqv_int, updL, lookL, ix0, ix1, ix2, sg, h2, h3', hx, m1, m2, m3, hy]
  · refine ⟨none, none, a, b, c, ?_, ha, hb, hb2, hc, hc2⟩
    rw [same]
    by_cases h1 : a = 0
    · have h2 : ¬ (c < (ns.length : Int) + 1 + 1 + 1) := fun z => h ⟨h1, z⟩
      simp [Dtake, exs, ex, ev, evs, evT, bind_ok, st_ok, seq_nx, seq_ret, optR_some, vals, dr, drs, P.f, P.f1, P.f2, asg, tru, hμ, at0, at1, at2, okD_int, eqv_int, h1, h2]
    · simp [Dtake, exs, ex, ev, evs, evT, bind_ok, st_ok, seq_nx, seq_ret, optR_some, vals, dr, drs, P.f, P.f1, P.f2, asg, tru, hμ, at0, at1, at2, okD_int, eqv_int, h1]
end Wp

set_option linter.all false
set_option maxRecDepth 100000
namespace Wp
theorem exs_app (n0 : Nat) : ∀ (a b : List S) (ρ : Env) (μ : Mu), exs n0 (a ++ b) ρ μ = (exs n0 a ρ μ).seq (exs n0 b)
  | [], b, ρ, μ => by rw [List.nil_append, exs.eq_1]; rfl
  | s :: a, b, ρ, μ => by
    rw [List.cons_append, exs.eq_2, exs.eq_2]
    cases ex n0 s ρ μ with
    | nx ρ' μ' => exact exs_app n0 a b ρ' μ'
    | _ => rfl
theorem run0 (f : Df) (as : List A) (μ : Mu) (hc : f.cells = 0) : f.run as μ = (match exs μ.length f.body (as.map some ++ List.replicate (f.slots - as.length) none) μ with
    | .nx _ μ' => .ok .non (μ'.take μ.length)
    | .ret d μ' => .ok d (μ'.take μ.length)
    | .exc c d _ μ' => .exc c d (μ'.take μ.length)
    | _ => .no) := by
  unfold Df.run
  rw [hc]
  simp only [List.replicate_zero, List.append_nil] <;> rfl
theorem set_set {μ : Mu} {n : Nat} {x y : Cell} : (μ.set n x).set n y = μ.set n y := List.set_set ..
/-- a draw: some number below many; the pot alone is changed -/
theorem s_take (c1 c2 c3 c4 c5 c6 : Int) (k1 : c1.natAbs < 2 ^ 60) (k2 : c2.natAbs < 2 ^ 60) (k3 : c3.natAbs < 2 ^ 60) (k4 : c4.natAbs < 2 ^ 60) (μ : Mu) (n : Nat) (l : List D) (many : Int)
    (hμ : μ[n]? = some ⟨false, .lst l⟩) (hl : Pot l) (hm : 0 < many) (hm2 : many.natAbs < 2 ^ 9000) :
    ∃ r l', (Dtake c1 c2 c3 c4 c5 c6).run [.c n, .v (.int many)] μ = .ok (.int r) (μ.set n ⟨false, .lst l'⟩) ∧ 0 ≤ r ∧ r < many ∧ Pot l' := by
  obtain ⟨a, b, c, ns, rfl, ha, hb, hb2, hc, hc2, hns⟩ := hl
  have hn : n < μ.length := (List.getElem?_eq_some_iff.mp hμ).1
  obtain ⟨x2, x4, a', b', c', e, h1, h2, h3, h4, h5⟩ := take_head c1 c2 c3 c4 c5 c6 μ.length μ n a b c ns many hμ ha hb hb2 hc hc2 hns k1 k2
  obtain ⟨r, l', e2, h6, h7, h8⟩ := take_tail c1 c2 c3 c4 c5 c6 μ.length (μ.set n ⟨false, .lst (.int a' :: .int b' :: .int c' :: ns.map .int)⟩) n a' b' c' ns many x2 none x4 (set_get hn) h1 h2 h3 h4 h5 hns hm hm2 k3 k4
  rw [set_set] at e2
  refine ⟨r, l', ?_, h6, h7, h8⟩
  rw [run0 _ _ _ rfl]
  have eb : (Dtake c1 c2 c3 c4 c5 c6).body = (Dtake c1 c2 c3 c4 c5 c6).body.take 1 ++ (Dtake c1 c2 c3 c4 c5 c6).body.drop 1 := (List.take_append_drop 1 _).symm
  have er : ([A.c n, A.v (.int many)].map some ++ List.replicate ((Dtake c1 c2 c3 c4 c5 c6).slots - [A.c n, A.v (.int many)].length) none) = [some (.c n), some (.v (.int many)), none, none, none] := rfl
  rw [er, eb, exs_app, e, seq_nx, e2]
  have et : (μ.set n ⟨false, .lst l'⟩).take μ.length = μ.set n ⟨false, .lst l'⟩ := List.take_of_length_le (by rw [List.length_set]; exact Nat.le_refl _)
  show Res.ok _ _ = _
  rw [et]
end Wp

set_option linter.all false
set_option maxRecDepth 100000
namespace Wp
/-- a loop, by an invariant -/
theorem for_inv {tg : D → Env → Option Env} {body : Env → Mu → Out} : ∀ {xs : List D} {ρ : Env} {μ : Mu} (I : Nat → Env → Mu → Prop) (k : Nat), I k ρ μ →
    (∀ (i : Nat) x, xs[i]? = some x → ∀ ρ μ, I (k + i) ρ μ → ∃ ρ', tg x ρ = some ρ' ∧ ∃ ρ2 μ2, (body ρ' μ = .nx ρ2 μ2 ∨ body ρ' μ = .cnt ρ2 μ2) ∧ I (k + i + 1) ρ2 μ2) →
    ∃ ρ' μ', forGo tg body xs ρ μ = .nx ρ' μ' ∧ I (k + xs.length) ρ' μ'
  | [], ρ, μ, I, k, h, _ => ⟨ρ, μ, rfl, h⟩
  | x :: xs, ρ, μ, I, k, h, hs => by
    obtain ⟨ρ', e1, ρ2, μ2, e2, h2⟩ := hs 0 x rfl ρ μ h
    obtain ⟨ρ3, μ3, e3, h3⟩ := for_inv (xs := xs) (ρ := ρ2) (μ := μ2) I (k + 1) h2 fun i y hy ρ μ hI => by
      have := hs (i + 1) y (by simpa using hy) ρ μ (by rw [show k + (i + 1) = k + 1 + i by omega]; exact hI)
      rw [show k + (i + 1) + 1 = k + 1 + i + 1 by omega] at this
      exact this
    refine ⟨ρ3, μ3, ?_, by rw [List.length_cons, show k + (xs.length + 1) = k + 1 + xs.length by omega]; exact h3⟩
    rw [forGo, e1]
    rcases e2 with e2 | e2 <;> (show (match body ρ' μ with | .nx ρ μ => _ | .cnt ρ μ => _ | .brk ρ μ => _ | o => o) = _; rw [e2]; exact e3)
/-- a list comprehension of pure parts -/
theorem lc_pure {tg : D → Env → Option Env} {test : Env → Mu → Res Bool} {el : Env → Mu → Res D} {n : Nat} {ρ : Env} {p : D → Bool} {f : D → D} : ∀ {xs : List D} {acc : List D} {μ : Mu}, μ[n]? = some ⟨false, .lst acc⟩ → acc.length + xs.length ≤ SL →
    (∀ x ∈ xs, ∃ ρ', tg x ρ = some ρ' ∧ ∀ acc, test ρ' (μ.set n ⟨false, .lst acc⟩) = .ok (p x) (μ.set n ⟨false, .lst acc⟩) ∧ (p x = true → el ρ' (μ.set n ⟨false, .lst acc⟩) = .ok (f x) (μ.set n ⟨false, .lst acc⟩))) →
    lcGo tg test el n ρ xs (μ.set n ⟨false, .lst acc⟩) = .ok () (μ.set n ⟨false, .lst (acc ++ (xs.filter p).map f)⟩)
  | [], acc, μ, h, _, _ => by simp [lcGo]
  | x :: xs, acc, μ, h, hl, hs => by
    have hn : n < μ.length := (List.getElem?_eq_some_iff.mp h).1
    obtain ⟨ρ', e1, e2⟩ := hs x List.mem_cons_self
    obtain ⟨e3, e4⟩ := e2 acc
    rw [lcGo, e1]
    show ((test ρ' (μ.set n ⟨false, .lst acc⟩)).bind _) = _
    rw [e3, bind_ok]
    cases hp : p x with
    | false =>
      rw [if_neg Bool.false_ne_true, lc_pure h (by simp only [List.length_cons] at hl; omega) fun y hy => hs y (List.mem_cons_of_mem _ hy), List.filter_cons_of_neg (by rw [hp]; simp)]
    | true =>
      rw [if_pos rfl, e4 hp, bind_ok, set_get hn]
      simp only [List.length_cons] at hl
      show (if acc.length < SL then _ else _) = _
      rw [if_pos (by omega), set_set]
      have := lc_pure (tg := tg) (test := test) (el := el) (ρ := ρ) (p := p) (f := f) (xs := xs) (acc := acc ++ [f x]) (μ := μ.set n ⟨false, .lst (acc ++ [f x])⟩) (set_get hn) (by rw [List.length_append]; simp; omega) fun y hy => by
        obtain ⟨ρ'', k1, k2⟩ := hs y (List.mem_cons_of_mem _ hy)
        refine ⟨ρ'', k1, fun acc' => ?_⟩
        rw [set_set]
        exact k2 acc'
      rw [set_set, set_set] at this
      rw [this, List.filter_cons_of_pos (by rw [hp]), List.map_cons, List.append_assoc]
      rfl
theorem app_set {μ : Mu} {c x : Cell} : (μ ++ [c]).set μ.length x = μ ++ [x] := by
  rw [List.set_append_right _ _ (Nat.le_refl _)]
  simp
theorem app_get {μ : Mu} {c : Cell} : (μ ++ [c])[μ.length]? = some c := by
  rw [List.getElem?_append_right (Nat.le_refl _)]; simp
/-- [e for t in g if ..], of pure parts -/
theorem ev_lc {g : I} {t : T} {cs : List E} {e : E} {own : List Nat} {ρ : Env} {μ : Mu} {xs : List D} (p : D → Bool) (f : D → D) (hg : evI g ρ μ = .ok xs μ) (hl : xs.length ≤ SL)
    (hs : ∀ x ∈ xs, ∃ ρ', asg t x (wipeE ρ own) = some ρ' ∧ ∀ c, evC cs ρ' (μ ++ [c]) = .ok (p x) (μ ++ [c]) ∧ (p x = true → (ev e ρ' (μ ++ [c])).bind toV = .ok (f x) (μ ++ [c]))) :
    ev (.lc g t cs e own) ρ μ = .ok (.v (.lst ((xs.filter p).map f))) μ := by
  rw [ev, hg, bind_ok]
  have h := lc_pure (tg := asg t) (test := evC cs) (el := fun ρ μ => (ev e ρ μ).bind toV) (n := μ.length) (ρ := wipeE ρ own) (p := p) (f := f) (xs := xs) (acc := []) (μ := μ ++ [⟨false, .lst []⟩]) app_get (by simpa using hl) fun x hx => by
    obtain ⟨ρ', h1, h2⟩ := hs x hx
    refine ⟨ρ', h1, fun acc => ?_⟩
    rw [app_set]
    exact h2 _
  rw [app_set, app_set] at h
  rw [h]
  show (Res.bind (Res.ok () _) _) = _
  rw [bind_ok]
  unfold lcEnd
  rw [app_get]
  simp
theorem ev_lc0 {g : I} {t : T} {e : E} {own : List Nat} {ρ : Env} {μ : Mu} {xs : List D} (f : D → D) (hg : evI g ρ μ = .ok xs μ) (hl : xs.length ≤ SL)
    (hs : ∀ x ∈ xs, ∃ ρ', asg t x (wipeE ρ own) = some ρ' ∧ ∀ c, (ev e ρ' (μ ++ [c])).bind toV = .ok (f x) (μ ++ [c])) :
    ev (.lc g t [] e own) ρ μ = .ok (.v (.lst (xs.map f))) μ := by
  have := ev_lc (cs := []) (fun _ => true) f hg hl fun x hx => by
    obtain ⟨ρ', h1, h2⟩ := hs x hx
    exact ⟨ρ', h1, fun c => ⟨by rw [evC], fun _ => h2 c⟩⟩
  rw [List.filter_eq_self.mpr fun _ _ => rfl] at this
  exact this
end Wp

set_option linter.all false
set_option maxRecDepth 100000
/-! P0: reading the small language step by step, for simp. Plain Lean. -/
namespace Wp
def fin (n : Nat) : Out → Res D
  | .nx _ μ' => .ok .non (μ'.take n)
  | .ret d μ' => .ok d (μ'.take n)
  | .exc c d _ μ' => .exc c d (μ'.take n)
  | _ => .no
@[simp] theorem fin_nx (n ρ μ) : fin n (.nx ρ μ) = .ok .non (μ.take n) := Eq.trans rfl rfl
@[simp] theorem fin_ret (n d μ) : fin n (.ret d μ) = .ok d (μ.take n) := Eq.trans rfl rfl
@[simp] theorem fin_exc (n c d ρ μ) : fin n (.exc c d ρ μ) = .exc c d (μ.take n) := Eq.trans rfl rfl
theorem run_eq (f : Df) (as : List A) (μ : Mu) : f.run as μ = fin μ.length (exs μ.length f.body (as.map some ++ List.replicate (f.slots - as.length) none) (μ ++ List.replicate f.cells ⟨false, .dead⟩)) := by
  unfold Df.run fin; rfl
theorem run_of {f : Df} {as : List A} {μ : Mu} {r : Res D} (h : fin μ.length (exs μ.length f.body (as.map some ++ List.replicate (f.slots - as.length) none) (μ ++ List.replicate f.cells ⟨false, .dead⟩)) = r) : f.run as μ = r := (run_eq f as μ).trans h
/- results -/
@[simp] theorem r_bind_ok {α β : Type} (a : α) (μ : Mu) (k : α → Mu → Res β) : (Res.ok a μ).bind k = k a μ := Eq.trans rfl rfl
@[simp] theorem r_bind_exc {α β : Type} (c : String) (d : D) (μ : Mu) (k : α → Mu → Res β) : (Res.exc c d μ).bind k = .exc c d μ := Eq.trans rfl rfl
@[simp] theorem r_st_ok {α : Type} (a : α) (μ : Mu) (ρ : Env) (k : α → Mu → Out) : (Res.ok a μ).st ρ k = k a μ := Eq.trans rfl rfl
@[simp] theorem r_st_exc {α : Type} (c : String) (d : D) (μ : Mu) (ρ : Env) (k : α → Mu → Out) : (Res.exc c d μ).st ρ k = .exc c d ρ μ := Eq.trans rfl rfl
@[simp] theorem o_nx (ρ : Env) (μ : Mu) (k : Env → Mu → Out) : (Out.nx ρ μ).seq k = k ρ μ := Eq.trans rfl rfl
@[simp] theorem o_ret (d : D) (μ : Mu) (k : Env → Mu → Out) : (Out.ret d μ).seq k = .ret d μ := Eq.trans rfl rfl
@[simp] theorem o_brk (ρ : Env) (μ : Mu) (k : Env → Mu → Out) : (Out.brk ρ μ).seq k = .brk ρ μ := Eq.trans rfl rfl
@[simp] theorem o_cnt (ρ : Env) (μ : Mu) (k : Env → Mu → Out) : (Out.cnt ρ μ).seq k = .cnt ρ μ := Eq.trans rfl rfl
@[simp] theorem o_exc (c : String) (d : D) (ρ : Env) (μ : Mu) (k : Env → Mu → Out) : (Out.exc c d ρ μ).seq k = .exc c d ρ μ := Eq.trans rfl rfl
@[simp] theorem r_optR {α : Type} (a : α) (μ : Mu) : optR (some a) μ = .ok a μ := Eq.trans rfl rfl
@[simp] theorem r_noExc {α : Type} (a : α) (μ : Mu) : noExc (.ok a μ) = .ok a μ := Eq.trans rfl rfl
/- arguments -/
@[simp] theorem dr_v (μ d) : dr μ (.v d) = some d := Eq.trans rfl rfl
@[simp] theorem dr_t (μ d) : dr μ (.t d) = some d := Eq.trans rfl rfl
theorem dr_c (μ n) : dr μ (.c n) = match μ[n]? with | some ⟨_, .lst xs⟩ => some (.lst xs) | _ => none := rfl
@[simp] theorem drs_nil (μ) : drs μ [] = some [] := Eq.trans rfl rfl
@[simp] theorem drs_cons (μ a as) : drs μ (a :: as) = match dr μ a, drs μ as with | some d, some ds => some (d :: ds) | _, _ => none := Eq.trans rfl rfl
@[simp] theorem vals_nil : vals [] = some [] := Eq.trans rfl rfl
@[simp] theorem vals_v (d as) : vals (.v d :: as) = match vals as with | some ds => some (d :: ds) | none => none := Eq.trans rfl rfl
@[simp] theorem vals_t (d as) : vals (.t d :: as) = match vals as with | some ds => some (d :: ds) | none => none := Eq.trans rfl rfl
@[simp] theorem toV_v (d μ) : toV (.v d) μ = .ok d μ := Eq.trans rfl rfl
@[simp] theorem toV_t (d μ) : toV (.t d) μ = .ok d μ := Eq.trans rfl rfl
/- expressions -/
@[simp] theorem e_var (i ρ μ) : ev (.var i) ρ μ = match ρ[i]? with | some (some a) => .ok a μ | _ => .no := by rw [ev] <;> rfl
@[simp] theorem e_k (d ρ μ) : ev (.k d) ρ μ = .ok (.v d) μ := by rw [ev] <;> rfl
@[simp] theorem e_g (x d ρ μ) : ev (.g x d) ρ μ = .ok (.v d) μ := by rw [ev] <;> rfl
@[simp] theorem e_prim (p es ρ μ) : ev (.prim p es) ρ μ = (evs es ρ μ).bind fun as μ1 => (optR ((drs μ1 as).bind p.f) μ1).bind fun d μ2 => .ok (.v d) μ2 := by rw [ev] <;> rfl
@[simp] theorem e_tup (es ρ μ) : ev (.tup es) ρ μ = (evs es ρ μ).bind fun as μ1 => (optR (vals as) μ1).bind fun ds μ2 => .ok (.v (.tup ds)) μ2 := by rw [ev] <;> rfl
@[simp] theorem e_lst (es ρ μ) : ev (.lst es) ρ μ = (evs es ρ μ).bind fun as μ1 => (optR (vals as) μ1).bind fun ds μ2 => .ok (.v (.lst ds)) μ2 := by rw [ev] <;> rfl
@[simp] theorem e_call (f F es ρ μ) : ev (.call f F es) ρ μ = (evs es ρ μ).bind fun as μ1 => (F as μ1).bind fun d μ2 => .ok (.v d) μ2 := by rw [ev] <;> rfl
@[simp] theorem e_callK (f F es ks perm ws ρ μ) : ev (.callK f F es ks perm ws) ρ μ = (evs es ρ μ).bind fun as μ1 => (evs ws ρ μ1).bind fun bs μ2 => (optR (permute perm (as ++ bs)) μ2).bind fun as' μ3 => (F as' μ3).bind fun d μ4 => .ok (.v d) μ4 := by rw [ev] <;> rfl
@[simp] theorem e_meth (p x es ρ μ) : ev (.meth p x es) ρ μ = (ev x ρ μ).bind fun xa μ0 => if recv p (dr μ0 xa) then (evs es ρ μ0).bind fun as μ1 => (optR ((drs μ1 (xa :: as)).bind p.f) μ1).bind fun d μ2 => .ok (.v d) μ2 else .no := by rw [ev] <;> rfl
@[simp] theorem e_mut (p x es ρ μ) : ev (.mut p x es) ρ μ = (ev x ρ μ).bind fun xa μ0 => match xa with
    | .c n => if isL μ0 n then (evs es ρ μ0).bind fun as μ1 => match μ1[n]?, vals as with
      | some ⟨false, c⟩, some ds => match p.f c ds with
        | some (c', d) => .ok (.v d) (μ1.set n ⟨false, c'⟩)
        | none => .no
      | _, _ => .no
      else .no
    | _ => .no := by rw [ev] <;> rfl
@[simp] theorem e_look (p x es ρ μ) : ev (.look p x es) ρ μ = (ev x ρ μ).bind fun xa μ0 => match xa with
    | .c n => if isD μ0 n then (evs es ρ μ0).bind fun as μ1 => match μ1[n]? with
      | some ⟨_, c⟩ => match p.f c as with
        | some d => .ok (.v d) μ1
        | none => .no
      | _ => .no
      else .no
    | _ => .no := by rw [ev] <;> rfl
@[simp] theorem e_inD (p k x ρ μ) : ev (.inD p k x) ρ μ = (ev k ρ μ).bind fun ka μ1 => (ev x ρ μ1).bind fun xa μ2 => match xa with
    | .c n => match μ2[n]? with
      | some ⟨_, c⟩ => match dictAt c ka with
        | some o => .ok (.v (.bl (if p then o.isSome else !o.isSome))) μ2
        | none => .no
      | none => .no
    | _ => .no := by rw [ev] <;> rfl
@[simp] theorem e_fz (e ρ μ) : ev (.fz e) ρ μ = (ev e ρ μ).bind fun a μ1 => match a with
    | .v d => .ok (.v d) μ1
    | .t d => .ok (.v d) μ1
    | .c n => match μ1[n]? with
      | some ⟨_, .lst xs⟩ => .ok (.v (.lst xs)) (μ1.set n ⟨true, .lst xs⟩)
      | _ => .no := by rw [ev] <;> rfl
@[simp] theorem e_and (a b ρ μ) : ev (.and a b) ρ μ = (ev a ρ μ).bind fun x μ1 => match (dr μ1 x).bind tru with
    | some true => ev b ρ μ1
    | some false => .ok x μ1
    | none => .no := by rw [ev] <;> rfl
@[simp] theorem e_or (a b ρ μ) : ev (.or a b) ρ μ = (ev a ρ μ).bind fun x μ1 => match (dr μ1 x).bind tru with
    | some true => .ok x μ1
    | some false => ev b ρ μ1
    | none => .no := by rw [ev] <;> rfl
@[simp] theorem e_ife (c a b ρ μ) : ev (.ife c a b) ρ μ = (ev c ρ μ).bind fun x μ1 => match (dr μ1 x).bind tru with
    | some true => ev a ρ μ1
    | some false => ev b ρ μ1
    | none => .no := by rw [ev] <;> rfl
@[simp] theorem e_chain (p q a b c ρ μ) : ev (.chain p q a b c) ρ μ = (ev a ρ μ).bind fun x μ1 => (ev b ρ μ1).bind fun y μ2 => (optR ((drs μ2 [x, y]).bind p.f) μ2).bind fun r μ3 => match r with
    | .bl true => (ev c ρ μ3).bind fun z μ4 => (optR ((drs μ4 [y, z]).bind q.f) μ4).bind fun r μ5 => .ok (.v r) μ5
    | .bl false => .ok (.v (.bl false)) μ3
    | _ => .no := by rw [ev] <;> rfl
@[simp] theorem es_nil (ρ μ) : evs [] ρ μ = .ok [] μ := by rw [evs] <;> rfl
@[simp] theorem es_cons (e es ρ μ) : evs (e :: es) ρ μ = (ev e ρ μ).bind fun a μ1 => (evs es ρ μ1).bind fun as μ2 => .ok (a :: as) μ2 := by rw [evs] <;> rfl
@[simp] theorem ec_nil (ρ μ) : evC [] ρ μ = .ok true μ := by rw [evC] <;> rfl
@[simp] theorem ec_cons (e es ρ μ) : evC (e :: es) ρ μ = (ev e ρ μ).bind fun x μ1 => match (dr μ1 x).bind tru with
    | some true => evC es ρ μ1
    | some false => .ok false μ1
    | none => .no := by rw [evC] <;> rfl
@[simp] theorem i_of (e ρ μ) : evI (.of e) ρ μ = (ev e ρ μ).bind fun a μ1 => match a with
    | .v d => optR (itOf d) μ1
    | _ => .no := by rw [evI] <;> rfl
@[simp] theorem i_rng (es ρ μ) : evI (.rng es) ρ μ = (evs es ρ μ).bind fun as μ1 => optR ((vals as).bind rngOf) μ1 := by rw [evI] <;> rfl
@[simp] theorem i_enum (e ρ μ) : evI (.enum e) ρ μ = (ev e ρ μ).bind fun a μ1 => match a with
    | .v (.lst xs) => .ok (enumL 0 xs) μ1
    | .v (.tup xs) => .ok (enumL 0 xs) μ1
    | _ => .no := by rw [evI] <;> rfl
@[simp] theorem i_zip (es ρ μ) : evI (.zip es) ρ μ = (evs es ρ μ).bind fun as μ1 => match as with
    | [.v (.lst xs), .v (.lst ys)] => .ok (zipL xs ys) μ1
    | [.v (.tup xs), .v (.tup ys)] => .ok (zipL xs ys) μ1
    | _ => .no := by rw [evI] <;> rfl
@[simp] theorem it_lst (xs) : itOf (.lst xs) = some xs := Eq.trans rfl rfl
@[simp] theorem it_tup (xs) : itOf (.tup xs) = some xs := Eq.trans rfl rfl
@[simp] theorem t_evT (e ρ μ) : evT e ρ μ = (ev e ρ μ).bind fun x μ1 => optR ((dr μ1 x).bind tru) μ1 := Eq.trans rfl rfl
/- statements -/
@[simp] theorem s_nil (n0 ρ μ) : exs n0 [] ρ μ = .nx ρ μ := by rw [exs] <;> rfl
@[simp] theorem s_cons (n0 s r ρ μ) : exs n0 (s :: r) ρ μ = (ex n0 s ρ μ).seq (exs n0 r) := by rw [exs] <;> rfl
@[simp] theorem s_set (n0 t e ρ μ) : ex n0 (.set t e) ρ μ = (ev e ρ μ).st ρ fun a μ1 => match a with
    | .v d => match asg t d ρ with
      | some ρ' => .nx ρ' μ1
      | none => .no
    | _ => .no := by rw [ex] <;> rfl
@[simp] theorem s_setT (n0 i e ρ μ) : ex n0 (.setT i e) ρ μ = (ev e ρ μ).st ρ fun a μ1 => match a with
    | .v d => if i < ρ.length then .nx (ρ.set i (some (.t d))) μ1 else .no
    | _ => .no := by rw [ex] <;> rfl
@[simp] theorem s_par (n0 is es ρ μ) : ex n0 (.par is es) ρ μ = (evk n0 es ρ μ).st ρ fun x μ1 => match putAll x.2 is x.1 with
    | some ρ' => .nx ρ' μ1
    | none => .no := by rw [ex] <;> rfl
@[simp] theorem s_new (n0 i j e ρ μ) : ex n0 (.new i j e) ρ μ = (ev e ρ μ).st ρ fun a μ1 => match a with
    | .v (.lst xs) => if i < ρ.length ∧ n0 + j < μ1.length then .nx ((killC (n0 + j) ρ).set i (some (.c (n0 + j)))) (μ1.set (n0 + j) ⟨false, .lst xs⟩) else .no
    | _ => .no := by rw [ex] <;> rfl
@[simp] theorem s_newD (n0 i j c ρ μ) : ex n0 (.newD i j c) ρ μ = if i < ρ.length ∧ n0 + j < μ.length then .nx ((killC (n0 + j) ρ).set i (some (.c (n0 + j)))) (μ.set (n0 + j) ⟨false, c⟩) else .no := by rw [ex] <;> rfl
@[simp] theorem s_updL (n0 x k v ρ μ) : ex n0 (.updL x k v) ρ μ = (ev v ρ μ).st ρ fun va μ1 => (ev x ρ μ1).st ρ fun xa μ2 => (ev k ρ μ2).st ρ fun ka μ3 => match va, xa, ka with
    | .v vd, .c n, .v kd => match μ3[n]? with
      | some ⟨false, c⟩ => match updL c kd vd with
        | some c' => .nx ρ (μ3.set n ⟨false, c'⟩)
        | none => .no
      | _ => .no
    | _, _, _ => .no := by rw [ex] <;> rfl
@[simp] theorem s_updD (n0 x k v ρ μ) : ex n0 (.updD x k v) ρ μ = (ev v ρ μ).st ρ fun va μ1 => (ev x ρ μ1).st ρ fun xa μ2 => (ev k ρ μ2).st ρ fun ka μ3 => match va, xa with
    | .v vd, .c n => match μ3[n]? with
      | some ⟨false, c⟩ => match updD c ka vd with
        | some c' => .nx ρ (μ3.set n ⟨false, c'⟩)
        | none => .no
      | _ => .no
    | _, _ => .no := by rw [ex] <;> rfl
@[simp] theorem s_aug (n0 i p e ρ μ) : ex n0 (.aug i p e) ρ μ = match ρ[i]? with
    | some (some (.v x)) => (ev e ρ μ).st ρ fun a μ1 => match dr μ1 a with
      | some y => match p.f [x, y] with
        | some d => .nx (ρ.set i (some (.v d))) μ1
        | none => .no
      | none => .no
    | _ => .no := by rw [ex] <;> rfl
@[simp] theorem s_augL (n0 x k p e ρ μ) : ex n0 (.augL x k p e) ρ μ = (ev x ρ μ).st ρ fun xa μ1 => (ev k ρ μ1).st ρ fun ka μ2 => match xa, ka with
    | .c n, .v kd => match μ2[n]? with
      | some ⟨_, c⟩ => match lookL c kd with
        | some old => (ev e ρ μ2).st ρ fun a μ3 => match dr μ3 a, μ3[n]? with
          | some y, some ⟨false, c3⟩ => match p.f [old, y] with
            | some d => match updL c3 kd d with
              | some c' => .nx ρ (μ3.set n ⟨false, c'⟩)
              | none => .no
            | none => .no
          | _, _ => .no
        | none => .no
      | none => .no
    | _, _ => .no := by rw [ex] <;> rfl
@[simp] theorem s_xp (n0 e ρ μ) : ex n0 (.xp e) ρ μ = (ev e ρ μ).st ρ fun _ μ1 => .nx ρ μ1 := by rw [ex] <;> rfl
@[simp] theorem s_ife (n0 c a b ρ μ) : ex n0 (.ife c a b) ρ μ = (evT c ρ μ).st ρ fun t μ1 => if t then exs n0 a ρ μ1 else exs n0 b ρ μ1 := by rw [ex] <;> rfl
@[simp] theorem s_for (n0 t g b ρ μ) : ex n0 (.for t g b) ρ μ = (evI g ρ μ).st ρ fun xs μ1 => forGo (asg t) (exs n0 b) xs ρ μ1 := by rw [ex] <;> rfl
@[simp] theorem s_whl (n0 n c b ρ μ) : ex n0 (.whl n c b) ρ μ = whGo (evT c) (exs n0 b) n ρ μ := by rw [ex] <;> rfl
@[simp] theorem s_ret (n0 e ρ μ) : ex n0 (.ret e) ρ μ = (ev e ρ μ).st ρ fun a μ1 => match a with
    | .v d => .ret d μ1
    | .t d => .ret d μ1
    | .c _ => .no := by rw [ex] <;> rfl
@[simp] theorem s_retC (n0 i ρ μ) : ex n0 (.retC i) ρ μ = match ρ[i]? with
    | some (some (.c n)) => if n0 ≤ n then match μ[n]? with
      | some ⟨false, .lst xs⟩ => .ret (.lst xs) μ
      | _ => .no
      else .no
    | _ => .no := by rw [ex] <;> rfl
@[simp] theorem s_brk (n0 ρ μ) : ex n0 .brk ρ μ = .brk ρ μ := by rw [ex] <;> rfl
@[simp] theorem s_cnt (n0 ρ μ) : ex n0 .cnt ρ μ = .cnt ρ μ := by rw [ex] <;> rfl
@[simp] theorem s_pas (n0 ρ μ) : ex n0 .pas ρ μ = .nx ρ μ := by rw [ex] <;> rfl
@[simp] theorem s_rai (n0 c e ρ μ) : ex n0 (.rai c e) ρ μ = (ev e ρ μ).st ρ fun a μ1 => match a with
    | .v d => .exc c d ρ μ1
    | _ => .no := by rw [ex] <;> rfl
/- targets -/
@[simp] theorem a_n (i d ρ) : asg (.n i) d ρ = if i < ρ.length then some (ρ.set i (some (.v d))) else none := by rw [asg] <;> rfl
@[simp] theorem a_t (ts xs ρ) : asg (.t ts) (.tup xs) ρ = asgs ts xs ρ := by rw [asg] <;> rfl
@[simp] theorem as_nil (ρ) : asgs [] [] ρ = some ρ := by rw [asgs] <;> rfl
@[simp] theorem as_cons (t ts d ds ρ) : asgs (t :: ts) (d :: ds) ρ = match asg t d ρ with | some ρ' => asgs ts ds ρ' | none => none := by rw [asgs] <;> rfl
@[simp] theorem pA_nil (ρ) : putAll ρ [] [] = some ρ := Eq.trans rfl rfl
@[simp] theorem pA_cons (ρ i is a as) : putAll ρ (i :: is) (a :: as) = if i < ρ.length then putAll (ρ.set i (some a)) is as else none := Eq.trans rfl rfl
@[simp] theorem kill_nil (n) : killC n [] = [] := Eq.trans rfl rfl
@[simp] theorem kill_none (n r) : killC n (none :: r) = none :: killC n r := Eq.trans rfl rfl
@[simp] theorem kill_v (n d r) : killC n (some (.v d) :: r) = some (.v d) :: killC n r := Eq.trans rfl rfl
@[simp] theorem kill_t (n d r) : killC n (some (.t d) :: r) = some (.t d) :: killC n r := Eq.trans rfl rfl
@[simp] theorem kill_c (n k r) : killC n (some (.c k) :: r) = (if k = n then none else some (.c k)) :: killC n r := Eq.trans rfl rfl
@[simp] theorem k_nil (n0 ρ μ) : evk n0 [] ρ μ = .ok ([], ρ) μ := Eq.trans rfl rfl
@[simp] theorem k_v (n0 e ps ρ μ) : evk n0 (.v e :: ps) ρ μ = (ev1 n0 (.v e) ρ μ).bind fun x μ1 => (evk n0 ps x.2 μ1).bind fun y μ2 => .ok (x.1 :: y.1, y.2) μ2 := Eq.trans rfl rfl
@[simp] theorem k_t (n0 e ps ρ μ) : evk n0 (.t e :: ps) ρ μ = (ev1 n0 (.t e) ρ μ).bind fun x μ1 => (evk n0 ps x.2 μ1).bind fun y μ2 => .ok (x.1 :: y.1, y.2) μ2 := Eq.trans rfl rfl
@[simp] theorem k_n (n0 j e ps ρ μ) : evk n0 (.n j e :: ps) ρ μ = (ev1 n0 (.n j e) ρ μ).bind fun x μ1 => (noExc (evk n0 ps x.2 μ1)).bind fun y μ2 => .ok (x.1 :: y.1, y.2) μ2 := Eq.trans rfl rfl
@[simp] theorem k_dK (n0 j ps ρ μ) : evk n0 (.dK j :: ps) ρ μ = (ev1 n0 (.dK j) ρ μ).bind fun x μ1 => (noExc (evk n0 ps x.2 μ1)).bind fun y μ2 => .ok (x.1 :: y.1, y.2) μ2 := Eq.trans rfl rfl
@[simp] theorem k_dT (n0 j ps ρ μ) : evk n0 (.dT j :: ps) ρ μ = (ev1 n0 (.dT j) ρ μ).bind fun x μ1 => (noExc (evk n0 ps x.2 μ1)).bind fun y μ2 => .ok (x.1 :: y.1, y.2) μ2 := Eq.trans rfl rfl
@[simp] theorem k1_v (n0 e ρ μ) : ev1 n0 (.v e) ρ μ = (ev e ρ μ).bind fun a μ1 => match a with | .v d => .ok (.v d, ρ) μ1 | _ => .no := Eq.trans rfl rfl
@[simp] theorem k1_t (n0 e ρ μ) : ev1 n0 (.t e) ρ μ = (ev e ρ μ).bind fun a μ1 => match a with | .v d => .ok (.t d, ρ) μ1 | _ => .no := Eq.trans rfl rfl
@[simp] theorem k1_n (n0 j e ρ μ) : ev1 n0 (.n j e) ρ μ = (ev e ρ μ).bind fun a μ1 => match a with | .v (.lst xs) => begC (n0 + j) (.lst xs) ρ μ1 | _ => .no := Eq.trans rfl rfl
@[simp] theorem k1_dK (n0 j ρ μ) : ev1 n0 (.dK j) ρ μ = begC (n0 + j) (.dK []) ρ μ := Eq.trans rfl rfl
@[simp] theorem k1_dT (n0 j ρ μ) : ev1 n0 (.dT j) ρ μ = begC (n0 + j) (.dT []) ρ μ := Eq.trans rfl rfl
@[simp] theorem begC_eq (n c ρ μ) : begC n c ρ μ = if n < μ.length then .ok (.c n, killC n ρ) (μ.set n ⟨false, c⟩) else .no := Eq.trans rfl rfl
@[simp] theorem wipe_nil (ρ) : wipeE ρ [] = ρ := Eq.trans rfl rfl
@[simp] theorem wipe_cons (ρ i is) : wipeE ρ (i :: is) = (wipeE ρ is).set i none := Eq.trans rfl rfl
/-- a slot behind a cell was begun anew -/
def unc (n : Nat) : Option A → Option A
  | some (.c k) => if k = n then none else some (.c k)
  | o => o
@[simp] theorem unc_v (n d) : unc n (some (.v d)) = some (.v d) := Eq.trans rfl rfl
@[simp] theorem unc_t (n d) : unc n (some (.t d)) = some (.t d) := Eq.trans rfl rfl
@[simp] theorem unc_no (n) : unc n none = none := Eq.trans rfl rfl
@[simp] theorem unc_c (n k) : unc n (some (.c k)) = if k = n then none else some (.c k) := Eq.trans rfl rfl
theorem kill_any (n o r) : killC n (o :: r) = unc n o :: killC n r := by
  cases o with
  | none => rfl
  | some a => cases a <;> rfl
/- truth -/
@[simp] theorem tru_non : tru .non = some false := Eq.trans rfl rfl
@[simp] theorem tru_bl (b) : tru (.bl b) = some b := Eq.trans rfl rfl
@[simp] theorem tru_int (i) : tru (.int i) = some (i != 0) := Eq.trans rfl rfl
@[simp] theorem tru_tup (xs) : tru (.tup xs) = some (!xs.isEmpty) := Eq.trans rfl rfl
@[simp] theorem tru_lst (xs) : tru (.lst xs) = some (!xs.isEmpty) := Eq.trans rfl rfl
/- the heap -/
@[simp] theorem h_get0 {μ L : Mu} : (μ ++ L)[μ.length]? = L[0]? := by
  rw [List.getElem?_append_right (Nat.le_refl _), Nat.sub_self]
@[simp] theorem h_get {μ L : Mu} {j : Nat} : (μ ++ L)[μ.length + j]? = L[j]? := by
  rw [List.getElem?_append_right (by omega)]; congr 1; omega
@[simp] theorem h_set0 {μ L : Mu} {x : Cell} : (μ ++ L).set μ.length x = μ ++ L.set 0 x := by
  rw [List.set_append_right _ _ (Nat.le_refl _), Nat.sub_self]
@[simp] theorem h_set {μ L : Mu} {j : Nat} {x : Cell} : (μ ++ L).set (μ.length + j) x = μ ++ L.set j x := by
  rw [List.set_append_right _ _ (by omega)]; congr 2; omega
theorem h_getl {μ L : Mu} {n : Nat} (h : n < μ.length) : (μ ++ L)[n]? = μ[n]? := List.getElem?_append_left h
theorem h_setl {μ L : Mu} {n : Nat} {x : Cell} (h : n < μ.length) : (μ ++ L).set n x = μ.set n x ++ L := List.set_append_left _ _ h
/- operations -/
@[simp] theorem f_1 (p : P) (a) : p.f [a] = p.f1 a := Eq.trans rfl rfl
@[simp] theorem f_2 (p : P) (a b) : p.f [a, b] = p.f2 a b := Eq.trans rfl rfl
@[simp] theorem f_3 (p : P) (a b c) : p.f [a, b, c] = p.f3 a b c := Eq.trans rfl rfl
@[simp] theorem f_slLH (a l h) : P.f3 .slLH a (.int l) (.int h) = cutD a (some l) (some h) := Eq.trans rfl rfl
@[simp] theorem f_neg (a) : P.f1 .neg (.int a) = some (.int (-a)) := Eq.trans rfl rfl
@[simp] theorem f_not (a) : P.f1 .not a = (tru a).map fun b => .bl (!b) := by cases a <;> rfl
@[simp] theorem f_isN_non : P.f1 .isN .non = some (.bl true) := Eq.trans rfl rfl
@[simp] theorem f_isN_int (a) : P.f1 .isN (.int a) = some (.bl false) := Eq.trans rfl rfl
@[simp] theorem f_isN_bl (a) : P.f1 .isN (.bl a) = some (.bl false) := Eq.trans rfl rfl
@[simp] theorem f_isN_str (a) : P.f1 .isN (.str a) = some (.bl false) := Eq.trans rfl rfl
@[simp] theorem f_isN_tup (a) : P.f1 .isN (.tup a) = some (.bl false) := Eq.trans rfl rfl
@[simp] theorem f_isN_lst (a) : P.f1 .isN (.lst a) = some (.bl false) := Eq.trans rfl rfl
@[simp] theorem f_notN_non : P.f1 .notN .non = some (.bl false) := Eq.trans rfl rfl
@[simp] theorem f_notN_int (a) : P.f1 .notN (.int a) = some (.bl true) := Eq.trans rfl rfl
@[simp] theorem f_notN_bl (a) : P.f1 .notN (.bl a) = some (.bl true) := Eq.trans rfl rfl
@[simp] theorem f_notN_str (a) : P.f1 .notN (.str a) = some (.bl true) := Eq.trans rfl rfl
@[simp] theorem f_notN_tup (a) : P.f1 .notN (.tup a) = some (.bl true) := Eq.trans rfl rfl
@[simp] theorem f_notN_lst (a) : P.f1 .notN (.lst a) = some (.bl true) := Eq.trans rfl rfl
@[simp] theorem f_len_tup (a) : P.f1 .len (.tup a) = some (.int a.length) := Eq.trans rfl rfl
@[simp] theorem f_len_lst (a) : P.f1 .len (.lst a) = some (.int a.length) := Eq.trans rfl rfl
@[simp] theorem f_asI (a) : P.f1 .asI (.int a) = some (.int a) := Eq.trans rfl rfl
@[simp] theorem f_abs (a) : P.f1 .abs (.int a) = some (.int (if a < 0 then -a else a)) := Eq.trans rfl rfl
@[simp] theorem f_int (a) : P.f1 .int (.int a) = some (.int a) := Eq.trans rfl rfl
@[simp] theorem f_intb (a) : P.f1 .int (.bl a) = some (.int (if a then 1 else 0)) := Eq.trans rfl rfl
@[simp] theorem f_tuple_l (a) : P.f1 .tuple (.lst a) = some (.tup a) := Eq.trans rfl rfl
@[simp] theorem f_tuple_t (a) : P.f1 .tuple (.tup a) = some (.tup a) := Eq.trans rfl rfl
@[simp] theorem f_list_l (a) : P.f1 .list (.lst a) = some (.lst a) := Eq.trans rfl rfl
@[simp] theorem f_list_t (a) : P.f1 .list (.tup a) = some (.lst a) := Eq.trans rfl rfl
@[simp] theorem f_list_f (a) : P.f1 .list (.frz a) = some (.lst a) := Eq.trans rfl rfl
@[simp] theorem f_sum (a) : P.f1 .sum (.lst a) = (intsOf a).map fun is => .int is.sum := Eq.trans rfl rfl
@[simp] theorem f_any (a) : P.f1 .any (.lst a) = (blsOf a).map fun bs => .bl (bs.any id) := Eq.trans rfl rfl
@[simp] theorem f_all (a) : P.f1 .all (.lst a) = (blsOf a).map fun bs => .bl (bs.all id) := Eq.trans rfl rfl
@[simp] theorem f_is_int (ts a) : P.f1 (.isinst ts) (.int a) = some (.bl (ts.any (isTy (.int a)))) := Eq.trans rfl rfl
@[simp] theorem f_is_bl (ts a) : P.f1 (.isinst ts) (.bl a) = some (.bl (ts.any (isTy (.bl a)))) := Eq.trans rfl rfl
@[simp] theorem f_is_non (ts) : P.f1 (.isinst ts) .non = some (.bl (ts.any (isTy .non))) := Eq.trans rfl rfl
@[simp] theorem f_is_str (ts a) : P.f1 (.isinst ts) (.str a) = some (.bl (ts.any (isTy (.str a)))) := Eq.trans rfl rfl
@[simp] theorem f_is_tup (ts a) : P.f1 (.isinst ts) (.tup a) = some (.bl (ts.any (isTy (.tup a)))) := Eq.trans rfl rfl
@[simp] theorem f_is_lst (ts a) : P.f1 (.isinst ts) (.lst a) = some (.bl (ts.any (isTy (.lst a)))) := Eq.trans rfl rfl
@[simp] theorem f_iadd (a b) : P.f2 .iadd (.int a) (.int b) = some (.int (a + b)) := Eq.trans rfl rfl
@[simp] theorem f_isub (a b) : P.f2 .isub (.int a) (.int b) = some (.int (a - b)) := Eq.trans rfl rfl
@[simp] theorem f_add (a b) : P.f2 .add (.int a) (.int b) = some (.int (a + b)) := Eq.trans rfl rfl
@[simp] theorem f_add_s (a b) : P.f2 .add (.str a) (.str b) = if a.length + b.length ≤ SL then some (.str (a ++ b)) else none := Eq.trans rfl rfl
@[simp] theorem f_add_t (a b) : P.f2 .add (.tup a) (.tup b) = if a.length + b.length ≤ SL then some (.tup (a ++ b)) else none := Eq.trans rfl rfl
@[simp] theorem f_add_l (a b) : P.f2 .add (.lst a) (.lst b) = if a.length + b.length ≤ SL then some (.lst (a ++ b)) else none := Eq.trans rfl rfl
@[simp] theorem f_sub (a b) : P.f2 .sub (.int a) (.int b) = some (.int (a - b)) := Eq.trans rfl rfl
@[simp] theorem f_mul (a b) : P.f2 .mul (.int a) (.int b) = if mulOk a b then some (.int (a * b)) else none := Eq.trans rfl rfl
@[simp] theorem f_mul_l (a b) : P.f2 .mul (.lst a) (.int b) = if (-(2 ^ 63) ≤ b ∧ b < 2 ^ 63) ∧ a.length * b.toNat ≤ SL then some (.lst (rep a b.toNat)) else none := Eq.trans rfl rfl
@[simp] theorem f_mul_t (a b) : P.f2 .mul (.tup a) (.int b) = if a.isEmpty = false ∧ 1 ≤ b ∧ b ≤ 1000 ∧ a.length ≤ 1000 then some (.tup (rep a b.toNat)) else none := Eq.trans rfl rfl
@[simp] theorem f_fdiv (a b) : P.f2 .fdiv (.int a) (.int b) = if divOk b then some (.int (a.fdiv b)) else none := Eq.trans rfl rfl
@[simp] theorem f_mod (a b) : P.f2 .mod (.int a) (.int b) = if b ≠ 0 then some (.int (a.fmod b)) else none := Eq.trans rfl rfl
@[simp] theorem f_pow (a b) : P.f2 .pow (.int a) (.int b) = if (0 ≤ b ∧ b ≤ 1000000) ∧ a.natAbs < 2 ^ 64 then some (.int (a ^ b.toNat)) else none := Eq.trans rfl rfl
@[simp] theorem f_lt (a b) : P.f2 .lt (.int a) (.int b) = some (.bl (decide (a < b))) := Eq.trans rfl rfl
@[simp] theorem f_le (a b) : P.f2 .le (.int a) (.int b) = some (.bl (decide (a ≤ b))) := Eq.trans rfl rfl
@[simp] theorem f_gt (a b) : P.f2 .gt (.int a) (.int b) = some (.bl (decide (b < a))) := Eq.trans rfl rfl
@[simp] theorem f_ge (a b) : P.f2 .ge (.int a) (.int b) = some (.bl (decide (b ≤ a))) := Eq.trans rfl rfl
@[simp] theorem f_eq_i (a b) : P.f2 .eq (.int a) (.int b) = some (.bl (decide (a = b))) := by
  show (if okD (.int a) && okD (.int b) then some (D.bl (D.eqv (.int a) (.int b))) else none) = _
  simp [okD, D.okN, D.eqv]; rfl
@[simp] theorem f_ne_i (a b) : P.f2 .ne (.int a) (.int b) = some (.bl (!decide (a = b))) := by
  show (if okD (.int a) && okD (.int b) then some (D.bl (!D.eqv (.int a) (.int b))) else none) = _
  simp [okD, D.okN, D.eqv]; rfl
@[simp] theorem f_eq_b (a b) : P.f2 .eq (.bl a) (.bl b) = some (.bl (a == b)) := by
  show (if okD (.bl a) && okD (.bl b) then some (D.bl (D.eqv (.bl a) (.bl b))) else none) = _
  simp [okD, D.okN, D.eqv]
@[simp] theorem f_ne_b (a b) : P.f2 .ne (.bl a) (.bl b) = some (.bl (!(a == b))) := by
  show (if okD (.bl a) && okD (.bl b) then some (D.bl (!D.eqv (.bl a) (.bl b))) else none) = _
  simp [okD, D.okN, D.eqv]
@[simp] theorem f_eq_s (a b) : P.f2 .eq (.str a) (.str b) = some (.bl (a == b)) := Eq.trans rfl rfl
@[simp] theorem f_ne_s (a b) : P.f2 .ne (.str a) (.str b) = some (.bl (!(a == b))) := Eq.trans rfl rfl
@[simp] theorem f_eq_t (a b) : P.f2 .eq (.tup a) (.tup b) = if okD (.tup a) && okD (.tup b) then some (.bl (D.eqvs a b)) else none := by
  show (if okD (.tup a) && okD (.tup b) then some (D.bl (D.eqv (.tup a) (.tup b))) else none) = _
  rw [D.eqv]
@[simp] theorem f_eq_l (a b) : P.f2 .eq (.lst a) (.lst b) = if okD (.lst a) && okD (.lst b) then some (.bl (D.eqvs a b)) else none := by
  show (if okD (.lst a) && okD (.lst b) then some (D.bl (D.eqv (.lst a) (.lst b))) else none) = _
  rw [D.eqv]
@[simp] theorem f_inn (a b) : P.f2 .inn a b = (inOf a b).map .bl := by cases a <;> cases b <;> rfl
@[simp] theorem f_notin (a b) : P.f2 .notin a b = (inOf a b).map fun k => .bl (!k) := by cases a <;> cases b <;> rfl
@[simp] theorem f_idx_l (a i) : P.f2 .idx (.lst a) (.int i) = atI a i := Eq.trans rfl rfl
@[simp] theorem f_idx_t (a i) : P.f2 .idx (.tup a) (.int i) = atI a i := Eq.trans rfl rfl
@[simp] theorem f_slLo (a l) : P.f2 .slLo a (.int l) = cutD a (some l) none := by cases a <;> rfl
@[simp] theorem f_slHi (a l) : P.f2 .slHi a (.int l) = cutD a none (some l) := by cases a <;> rfl
@[simp] theorem cut_l (a l h) : cutD (.lst a) l h = some (.lst (cut a l h)) := Eq.trans rfl rfl
@[simp] theorem cut_t (a l h) : cutD (.tup a) l h = some (.tup (cut a l h)) := Eq.trans rfl rfl
@[simp] theorem f_max (a b) : P.f2 .max (.int a) (.int b) = some (.int (if b > a then b else a)) := Eq.trans rfl rfl
@[simp] theorem f_min (a b) : P.f2 .min (.int a) (.int b) = some (.int (if b < a then b else a)) := Eq.trans rfl rfl
@[simp] theorem f_gcd (a b) : P.f2 .gcd (.int a) (.int b) = some (.int (Nat.gcd a.natAbs b.natAbs : Nat)) := Eq.trans rfl rfl
@[simp] theorem at_0 {α : Type} (x : α) (l : List α) : atI (x :: l) 0 = some x := at0 x l
@[simp] theorem at_1 {α : Type} (x y : α) (l : List α) : atI (x :: y :: l) 1 = some y := at1 x y l
@[simp] theorem at_2 {α : Type} (x y z : α) (l : List α) : atI (x :: y :: z :: l) 2 = some z := at2 x y z l
@[simp] theorem at_n {α : Type} (l : List α) (n : Nat) : atI l (n : Int) = l[n]? := atN l n
/- loops: named as they stand -/
theorem for_o {tg : D → Env → Option Env} {body : Env → Mu → Out} {xs : List D} {ρ : Env} {μ : Mu} {o : Out} (hf : forGo tg body xs ρ μ = o) (I : Nat → Env → Mu → Prop) (h0 : I 0 ρ μ)
    (hs : ∀ (i : Nat) x, xs[i]? = some x → ∀ ρ μ, I i ρ μ → ∃ ρ', tg x ρ = some ρ' ∧ ∃ ρ2 μ2, (body ρ' μ = .nx ρ2 μ2 ∨ body ρ' μ = .cnt ρ2 μ2) ∧ I (i + 1) ρ2 μ2) : ∃ ρ' μ', o = .nx ρ' μ' ∧ I xs.length ρ' μ' := by
  obtain ⟨ρ', μ', h1, h2⟩ := for_inv (xs := xs) I 0 h0 fun i x hx ρ μ hI => by
    have := hs i x hx ρ μ (by simpa using hI)
    simpa using this
  exact ⟨ρ', μ', hf.symm.trans h1, by simpa using h2⟩
/-- a loop that may be left: I at a turn's begin, B where it was left -/
theorem for_brk {tg : D → Env → Option Env} {body : Env → Mu → Out} : ∀ {xs : List D} {ρ : Env} {μ : Mu} (I : Nat → Env → Mu → Prop) (B : Env → Mu → Prop) (k : Nat), I k ρ μ →
    (∀ (i : Nat) x, xs[i]? = some x → ∀ ρ μ, I (k + i) ρ μ → ∃ ρ', tg x ρ = some ρ' ∧ ∃ ρ2 μ2, ((body ρ' μ = .nx ρ2 μ2 ∨ body ρ' μ = .cnt ρ2 μ2) ∧ I (k + i + 1) ρ2 μ2) ∨ (body ρ' μ = .brk ρ2 μ2 ∧ B ρ2 μ2)) →
    ∃ ρ' μ', forGo tg body xs ρ μ = .nx ρ' μ' ∧ (I (k + xs.length) ρ' μ' ∨ B ρ' μ')
  | [], ρ, μ, I, B, k, h, _ => ⟨ρ, μ, rfl, .inl h⟩
  | x :: xs, ρ, μ, I, B, k, h, hs => by
    obtain ⟨ρ', e1, ρ2, μ2, h2⟩ := hs 0 x rfl ρ μ h
    rcases h2 with ⟨e2, h2⟩ | ⟨e2, h2⟩
    · obtain ⟨ρ3, μ3, e3, h3⟩ := for_brk (xs := xs) (ρ := ρ2) (μ := μ2) I B (k + 1) h2 fun i y hy ρ μ hI => by
        have := hs (i + 1) y (by simpa using hy) ρ μ (by rw [show k + (i + 1) = k + 1 + i by omega]; exact hI)
        rw [show k + (i + 1) + 1 = k + 1 + i + 1 by omega] at this
        exact this
      refine ⟨ρ3, μ3, ?_, by rw [List.length_cons, show k + (xs.length + 1) = k + 1 + xs.length by omega]; exact h3⟩
      rw [forGo, e1]
      rcases e2 with e2 | e2 <;> (show (match body ρ' μ with | .nx ρ μ => _ | .cnt ρ μ => _ | .brk ρ μ => _ | o => o) = _; rw [e2]; exact e3)
    · refine ⟨ρ2, μ2, ?_, .inr h2⟩
      rw [forGo, e1]
      show (match body ρ' μ with | .nx ρ μ => _ | .cnt ρ μ => _ | .brk ρ μ => _ | o => o) = _
      rw [e2]
theorem for_ob {tg : D → Env → Option Env} {body : Env → Mu → Out} {xs : List D} {ρ : Env} {μ : Mu} {o : Out} (hf : forGo tg body xs ρ μ = o) (I : Nat → Env → Mu → Prop) (B : Env → Mu → Prop) (h0 : I 0 ρ μ)
    (hs : ∀ (i : Nat) x, xs[i]? = some x → ∀ ρ μ, I i ρ μ → ∃ ρ', tg x ρ = some ρ' ∧ ∃ ρ2 μ2, ((body ρ' μ = .nx ρ2 μ2 ∨ body ρ' μ = .cnt ρ2 μ2) ∧ I (i + 1) ρ2 μ2) ∨ (body ρ' μ = .brk ρ2 μ2 ∧ B ρ2 μ2)) : ∃ ρ' μ', o = .nx ρ' μ' ∧ (I xs.length ρ' μ' ∨ B ρ' μ') := by
  obtain ⟨ρ', μ', h1, h2⟩ := for_brk (xs := xs) I B 0 h0 fun i x hx ρ μ hI => by
    have := hs i x hx ρ μ (by simpa using hI)
    simpa using this
  exact ⟨ρ', μ', hf.symm.trans h1, by simpa using h2⟩
/-- a comprehension as it stands -/
theorem lc_o {g : I} {t : T} {cs : List E} {e : E} {own : List Nat} {ρ : Env} {μ : Mu} {r : Res A} (h : ev (.lc g t cs e own) ρ μ = r) {xs : List D} (p : D → Bool) (f : D → D) (hg : evI g ρ μ = .ok xs μ) (hl : xs.length ≤ SL)
    (hs : ∀ x ∈ xs, ∃ ρ', asg t x (wipeE ρ own) = some ρ' ∧ ∀ c, evC cs ρ' (μ ++ [c]) = .ok (p x) (μ ++ [c]) ∧ (p x = true → (ev e ρ' (μ ++ [c])).bind toV = .ok (f x) (μ ++ [c]))) :
    r = .ok (.v (.lst ((xs.filter p).map f))) μ := h.symm.trans (ev_lc p f hg hl hs)
theorem lc_o0 {g : I} {t : T} {e : E} {own : List Nat} {ρ : Env} {μ : Mu} {r : Res A} (h : ev (.lc g t [] e own) ρ μ = r) {xs : List D} (f : D → D) (hg : evI g ρ μ = .ok xs μ) (hl : xs.length ≤ SL)
    (hs : ∀ x ∈ xs, ∃ ρ', asg t x (wipeE ρ own) = some ρ' ∧ ∀ c, (ev e ρ' (μ ++ [c])).bind toV = .ok (f x) (μ ++ [c])) :
    r = .ok (.v (.lst (xs.map f))) μ := h.symm.trans (ev_lc0 f hg hl hs)
end Wp

set_option linter.all false
set_option maxRecDepth 100000
/-! P1: ranges, sameness, sizes. Plain Lean. -/
namespace Wp
theorem rngL_mem : ∀ {n : Nat} {lo : Int} {x : D}, x ∈ rngL lo n → ∃ i : Nat, i < n ∧ x = .int (lo + i)
  | 0, lo, x, h => by simp [rngL] at h
  | n + 1, lo, x, h => by
    rw [rngL, List.mem_cons] at h
    rcases h with rfl | h
    · exact ⟨0, by omega, by simp⟩
    · obtain ⟨i, h1, rfl⟩ := rngL_mem h
      exact ⟨i + 1, by omega, by congr 1; omega⟩
@[simp] theorem rngL_len : ∀ (n : Nat) (lo : Int), (rngL lo n).length = n
  | 0, _ => rfl
  | n + 1, lo => congrArg Nat.succ (rngL_len n (lo + 1))
theorem rngL_at : ∀ {n : Nat} {lo : Int} {i : Nat} {x : D}, (rngL lo n)[i]? = some x → i < n ∧ x = .int (lo + i)
  | 0, lo, i, x, h => by simp [rngL] at h
  | n + 1, lo, 0, x, h => by
    simp [rngL] at h
    subst h
    exact ⟨by omega, by simp⟩
  | n + 1, lo, i + 1, x, h => by
    rw [rngL, List.getElem?_cons_succ] at h
    obtain ⟨h1, rfl⟩ := rngL_at h
    exact ⟨by omega, by congr 1; omega⟩
theorem rngL_eq (n : Nat) : rngL 0 n = (List.range n).map fun i => D.int ((i : Nat) : Int) := by
  apply List.ext_getElem?
  intro i
  by_cases h : i < n
  · obtain ⟨x, hx⟩ : ∃ x, (rngL 0 n)[i]? = some x := ⟨_, List.getElem?_eq_getElem (by rw [rngL_len]; exact h)⟩
    rw [hx, (rngL_at hx).2]
    simp [h]
  · rw [List.getElem?_eq_none (by rw [rngL_len]; omega), List.getElem?_eq_none (by simp; omega)]
theorem p62 : (2 : Int) ^ 62 = 4611686018427387904 := by decide
theorem p63 : (2 : Int) ^ 63 = 9223372036854775808 := by decide
theorem lim {n : Int} (h : -1000000 ≤ n) (h' : n ≤ 1000000) : -(2 ^ 62) ≤ n ∧ n < 2 ^ 62 := by rw [p62]; omega
theorem rngOf_int (n : Int) (h : -1000000 ≤ n) (h' : n ≤ 1000000) : rngOf [.int n] = some (rngL 0 n.toNat) := by
  rw [rngOf.eq_1, if_pos (lim h h')]
theorem rngOf_nat (n : Nat) (h : n ≤ 1000000) : rngOf [.int n] = some (rngL 0 n) := rngOf_int n (by omega) (by omega)
theorem rngOf_two (a b : Int) (h : -1000000 ≤ a) (h' : a ≤ 1000000) (k : -1000000 ≤ b) (k' : b ≤ 1000000) : rngOf [.int a, .int b] = some (rngL a (b - a).toNat) := by
  rw [rngOf.eq_2, if_pos ⟨(lim h h').1, (lim h h').2, (lim k k').1, (lim k k').2⟩]
@[simp] theorem enumL_len : ∀ (l : List D) (i : Nat), (enumL i l).length = l.length
  | [], _ => rfl
  | x :: l, i => congrArg Nat.succ (enumL_len l (i + 1))
theorem enumL_at : ∀ {l : List D} {j i : Nat} {x : D}, (enumL j l)[i]? = some x → ∃ y, l[i]? = some y ∧ x = .tup [.int ((j + i : Nat) : Int), y]
  | [], j, i, x, h => by simp [enumL] at h
  | y :: l, j, 0, x, h => by
    simp [enumL] at h
    exact ⟨y, rfl, by rw [← h]; rfl⟩
  | y :: l, j, i + 1, x, h => by
    rw [enumL, List.getElem?_cons_succ] at h
    obtain ⟨z, h1, rfl⟩ := enumL_at h
    exact ⟨z, by simpa using h1, by rw [show j + 1 + i = j + (i + 1) by omega]⟩
theorem enumL_map : ∀ (l : List D) (j : Nat) (f : Nat → D → D), (enumL j l).map (fun x => match x with | .tup [.int i, y] => f i.toNat y | _ => .non) = (List.range' j l.length).zipWith f l
  | [], j, f => rfl
  | x :: l, j, f => by
    rw [enumL, List.map_cons, enumL_map l (j + 1) f, List.length_cons, List.range'_succ, List.zipWith_cons_cons]
    simp
theorem SL_eq : SL = 16777216 := rfl
theorem blsOf_true : ∀ l : List D, blsOf (l.map fun _ => D.bl true) = some (l.map fun _ => true)
  | [] => rfl
  | x :: l => by rw [List.map_cons, blsOf, blsOf_true l]; rfl
theorem blsOf_map {α : Type} : ∀ (l : List α) (f : α → Bool), blsOf (l.map fun x => D.bl (f x)) = some (l.map f)
  | [], _ => rfl
  | x :: l, f => by rw [List.map_cons, blsOf, blsOf_map l f]; rfl
theorem all_true (l : List D) : (l.map fun _ => true).all id = true := by simp
theorem okD_bl (b : Bool) : okD (.bl b) = true := by simp [okD, D.okN]
theorem eqv_bl (a b : Bool) : D.eqv (.bl a) (.bl b) = (a == b) := by simp [D.eqv]
mutual
theorem eqv_self : ∀ (n : Nat) (d : D), D.okN n d = true → D.eqv d d = true
  | n, .non, _ => by simp [D.eqv]
  | n, .bl _, _ => by simp [D.eqv]
  | n, .int _, _ => by simp [D.eqv]
  | n, .str _, _ => by simp [D.eqv]
  | 0, .tup _, h => by simp [D.okN] at h
  | 0, .lst _, h => by simp [D.okN] at h
  | n + 1, .tup xs, h => by rw [D.eqv]; exact eqvs_self n xs (by simpa [D.okN] using h)
  | n + 1, .lst xs, h => by rw [D.eqv]; exact eqvs_self n xs (by simpa [D.okN] using h)
  | 0, .fn _, h => by simp [D.okN] at h
  | n + 1, .fn _, h => by simp [D.okN] at h
  | 0, .exc _ _, h => by simp [D.okN] at h
  | n + 1, .exc _ _, h => by simp [D.okN] at h
  | 0, .frz _, h => by simp [D.okN] at h
  | n + 1, .frz _, h => by simp [D.okN] at h
theorem eqvs_self : ∀ (n : Nat) (ds : List D), D.okNs n ds = true → D.eqvs ds ds = true
  | n, [], _ => by simp [D.eqvs]
  | n, x :: ds, h => by
    rw [D.okNs, Bool.and_eq_true] at h
    rw [D.eqvs, eqv_self n x h.1, eqvs_self n ds h.2]; rfl
end
/-- the law's own comparison -/
def Dsame (F : Fn) : Df := ⟨3, 0, [(.ife (.prim .isN [(.var 1)]) [(.ret (.prim .isN [(.var 0)]))] []),
  (.ife (.prim (.isinst [.bool, .str]) [(.var 1)]) [(.ret (.and (.prim .eq [(.prim (.isinst [.bool]) [(.var 0)]), (.prim (.isinst [.bool]) [(.var 1)])]) (.and (.prim (.isinst [.bool, .str]) [(.var 0)]) (.prim .eq [(.var 0), (.var 1)]))))] []),
  (.ife (.prim (.isinst [.int]) [(.var 1)]) [(.ret (.and (.prim (.isinst [.int]) [(.var 0)]) (.and (.prim .not [(.prim (.isinst [.bool]) [(.var 0)])]) (.prim .eq [(.var 0), (.var 1)]))))] []),
  (.ife (.or (.prim .ne [(.prim (.isinst [.list]) [(.var 1)]), (.prim (.isinst [.list]) [(.var 0)])]) (.prim .ne [(.prim (.isinst [.tuple]) [(.var 1)]), (.prim (.isinst [.tuple]) [(.var 0)])])) [(.ret (.k (.bl false)))] []),
  (.ret (.and (.prim .eq [(.prim .len [(.var 0)]), (.prim .len [(.var 1)])]) (.prim .all [(.lc (.rng [(.prim .len [(.var 1)])]) (.n 2) [] (.call "_law_same" F [(.prim .idx [(.var 0), (.var 2)]), (.prim .idx [(.var 1), (.var 2)])]) [2])])))]⟩
def Gsame : Nat → Fn
  | 0 => fun _ _ => .no
  | k + 1 => (Dsame (Gsame k)).run
mutual
/-- data that the comparison walks, at most n deep -/
def D.plN : Nat → D → Bool
  | _, .non => true
  | _, .bl _ => true
  | _, .int _ => true
  | _, .str _ => true
  | 0, .tup _ => false
  | 0, .lst _ => false
  | n + 1, .tup xs => decide (xs.length ≤ 1000000) && D.plNs n xs
  | n + 1, .lst xs => decide (xs.length ≤ 1000000) && D.plNs n xs
  | _, .fn _ => false
  | _, .exc _ _ => false
  | _, .frz _ => false
def D.plNs : Nat → List D → Bool
  | _, [] => true
  | n, x :: xs => D.plN n x && D.plNs n xs
end
theorem plNs_all : ∀ {n : Nat} {ds : List D}, (∀ d ∈ ds, D.plN n d = true) → D.plNs n ds = true
  | n, [], _ => by rw [D.plNs]
  | n, x :: ds, h => by
    rw [D.plNs, h x List.mem_cons_self, plNs_all fun d hd => h d (List.mem_cons_of_mem _ hd)]; rfl
theorem plNs_get : ∀ {n : Nat} {ds : List D} {d : D}, D.plNs n ds = true → d ∈ ds → D.plN n d = true
  | n, [], d, _, h => by simp at h
  | n, x :: ds, d, e, h => by
    rw [D.plNs, Bool.and_eq_true] at e
    rcases List.mem_cons.mp h with rfl | h
    · exact e.1
    · exact plNs_get e.2 h
end Wp

set_option linter.all false
set_option maxRecDepth 100000
namespace Wp
theorem same_seq {K : Nat} {d : D} {xs : List D} {μ : Mu} (hd : d = .tup xs ∨ d = .lst xs) (hl : xs.length ≤ 1000000) (hs : ∀ x ∈ xs, ∀ μ, Gsame K [.v x, .v x] μ = .ok (.bl true) μ) :
    ev (.lc (.rng [(.prim .len [(.var 1)])]) (.n 2) [] (.call "_law_same" (Gsame K) [(.prim .idx [(.var 0), (.var 2)]), (.prim .idx [(.var 1), (.var 2)])]) [2]) [some (.v d), some (.v d), none] μ = .ok (.v (.lst ((rngL 0 xs.length).map fun _ => D.bl true))) μ := by
  refine ev_lc0 (fun _ => D.bl true) ?_ (by rw [rngL_len, SL_eq]; omega) fun x hx => ?_
  · rcases hd with rfl | rfl <;> simp -implicitDefEqProofs [rngOf_nat _ hl]
  obtain ⟨i, hi, rfl⟩ := rngL_mem hx
  refine ⟨[some (.v d), some (.v d), some (.v (.int i))], by simp, fun c => ?_⟩
  have hc := hs xs[i] (List.getElem_mem hi) (μ ++ [c])
  rcases hd with rfl | rfl <;> simp [hi, hc]
theorem s_same : ∀ (k K : Nat) (d : D), D.plN k d = true → k < K → ∀ μ, Gsame K [.v d, .v d] μ = .ok (.bl true) μ := by
  intro k
  induction k with
  | zero =>
    intro K d h hk μ
    obtain ⟨K, rfl⟩ : ∃ j, K = j + 1 := ⟨K - 1, by omega⟩
    rw [Gsame]
    cases d <;> first
      | (simp [D.plN] at h; done)
      | (refine run_of ?_; simp [Dsame, isTy])
  | succ k ih =>
    intro K d h hk μ
    obtain ⟨K, rfl⟩ : ∃ j, K = j + 1 := ⟨K - 1, by omega⟩
    have seq : ∀ xs, (d = .tup xs ∨ d = .lst xs) → xs.length ≤ 1000000 → D.plNs k xs = true → Gsame (K + 1) [.v d, .v d] μ = .ok (.bl true) μ := by
      intro xs hd hl hp
      have hall := same_seq (K := K) (μ := μ) hd hl fun x hx μ => ih K x (plNs_get hp hx) (by omega) μ
      have hb := blsOf_true (rngL 0 xs.length)
      rw [Gsame]
      refine run_of ?_
      rcases hd with rfl | rfl <;> simp [Dsame, isTy, hall, hb]
    cases d with
    | tup xs =>
      simp only [D.plN, Bool.and_eq_true, decide_eq_true_eq] at h
      exact seq xs (.inl rfl) h.1 h.2
    | lst xs =>
      simp only [D.plN, Bool.and_eq_true, decide_eq_true_eq] at h
      exact seq xs (.inr rfl) h.1 h.2
    | _ => first
      | (simp [D.plN] at h; done)
      | (rw [Gsame]; refine run_of ?_; simp [Dsame, isTy])
end Wp

set_option linter.all false
set_option maxRecDepth 100000
/-! P2: slices, dicts, last parts. Plain Lean. -/
namespace Wp
theorem sIx_n (n d k : Nat) : sIx n d (some (k : Int)) = min k n := by
  show (if (k : Int) < 0 then ((k : Int) + n).toNat else min (k : Int).toNat n) = _
  rw [if_neg (by omega), Int.toNat_natCast]
theorem sIx_m1 (n d : Nat) : sIx n d (some (-1)) = n - 1 := by
  show (if (-1 : Int) < 0 then ((-1 : Int) + n).toNat else min (-1 : Int).toNat n) = _
  rw [if_pos (by omega)]; omega
theorem sIx_no (n d : Nat) : sIx n d none = d := rfl
@[simp] theorem cut_hi {α : Type} (xs : List α) (k : Nat) : cut xs none (some (k : Int)) = xs.take k := by
  unfold cut
  rw [sIx_n, sIx_no, List.drop_zero, Nat.sub_zero]
  by_cases h : k ≤ xs.length
  · rw [Nat.min_eq_left h]
  · rw [Nat.min_eq_right (by omega), List.take_length, List.take_of_length_le (by omega)]
@[simp] theorem cut_lo {α : Type} (xs : List α) (k : Nat) : cut xs (some (k : Int)) none = xs.drop k := by
  unfold cut
  rw [sIx_n, sIx_no]
  by_cases h : k ≤ xs.length
  · rw [Nat.min_eq_left h, List.take_of_length_le (by rw [List.length_drop]; omega)]
  · rw [Nat.min_eq_right (by omega), List.drop_length, List.drop_of_length_le (by omega)]; simp
@[simp] theorem cut_lohi {α : Type} (xs : List α) (a b : Nat) : cut xs (some (a : Int)) (some (b : Int)) = (xs.drop a).take (b - a) := by
  unfold cut
  rw [sIx_n, sIx_n]
  by_cases h : a ≤ xs.length
  · rw [Nat.min_eq_left h]
    by_cases h2 : b ≤ xs.length
    · rw [Nat.min_eq_left h2]
    · rw [Nat.min_eq_right (by omega), List.take_of_length_le (by rw [List.length_drop]; omega), List.take_of_length_le (by rw [List.length_drop]; omega)]
  · rw [List.drop_of_length_le (show xs.length ≤ min a xs.length by omega), List.drop_of_length_le (show xs.length ≤ a by omega)]; simp
@[simp] theorem cut_hi1 {α : Type} (xs : List α) (k : Nat) : cut xs none (some ((k : Int) + 1)) = xs.take (k + 1) := cut_hi xs (k + 1)
@[simp] theorem cut_lo1 {α : Type} (xs : List α) (k : Nat) : cut xs (some ((k : Int) + 1)) none = xs.drop (k + 1) := cut_lo xs (k + 1)
@[simp] theorem cut_hi_one {α : Type} (xs : List α) : cut xs none (some 1) = xs.take 1 := cut_hi xs 1
@[simp] theorem cut_lo_one {α : Type} (xs : List α) : cut xs (some 1) none = xs.drop 1 := cut_lo xs 1
theorem cut_hi_n1 {α : Type} (xs : List α) : cut xs none (some (-1)) = xs.dropLast := by
  unfold cut
  rw [sIx_m1, sIx_no, List.dropLast_eq_take]; simp
theorem cut_lo_n1 {α : Type} (xs : List α) : cut xs (some (-1)) none = xs.drop (xs.length - 1) := by
  unfold cut
  rw [sIx_m1, sIx_no]
  exact List.take_of_length_le (by rw [List.length_drop]; omega)
theorem at_n1 {α : Type} (l : List α) : atI l (-1) = l.getLast? := by
  unfold atI ixN
  rw [if_neg (by omega), List.getLast?_eq_getElem?]
  by_cases h : l = []
  · subst h; simp
  · have := List.length_pos_iff.mpr h
    rw [if_pos (by omega)]
    simp only [Option.bind_some]
    congr 1; omega
theorem at_zero {α : Type} (l : List α) : atI l 0 = l[0]? := atN l 0
theorem dLook_find (k : D) : ∀ l : List (D × D), dLook k l = (l.find? (fun p => D.eqv p.1 k)).map (·.2)
  | [] => rfl
  | (x, y) :: l => by
    rw [dLook, List.find?_cons]
    by_cases h : D.eqv x k = true
    · rw [if_pos h]; simp [h]
    · rw [if_neg h, dLook_find k l]; simp [h]
theorem okNs_map {α : Type} {n : Nat} {f : α → D} : ∀ {l : List α}, (∀ a ∈ l, D.okN n (f a) = true) → D.okNs n (l.map f) = true
  | [], _ => by rw [List.map_nil, D.okNs]
  | a :: l, h => by
    rw [List.map_cons, D.okNs, h a List.mem_cons_self, okNs_map fun b hb => h b (List.mem_cons_of_mem _ hb)]; rfl
@[simp] theorem okD_ints (l : List Int) : okD (.tup (l.map D.int)) = true := by
  unfold okD; rw [D.okN]; exact okNs_map fun a _ => by rw [D.okN]
@[simp] theorem okD_nil : okD (.tup []) = true := by unfold okD; rw [D.okN, D.okNs]
theorem eqvs_nil (l : List D) : D.eqvs l [] = l.isEmpty := by cases l <;> simp [D.eqvs]
theorem eqv_int' (i j : Int) : D.eqv (.int i) (.int j) = decide (i = j) := eqv_int i j
theorem php : ∀ (q : Nat) (f : Nat → Nat), (∀ i, i ≤ q → f i < q) → ∃ a b, a < b ∧ b ≤ q ∧ f a = f b
  | 0, f, h => absurd (h 0 (Nat.le_refl 0)) (by omega)
  | q + 1, f, h => by
    by_cases hx : ∃ i, i ≤ q ∧ f i = f (q + 1)
    · obtain ⟨i, h1, h2⟩ := hx
      exact ⟨i, q + 1, by omega, by omega, h2⟩
    · have hne : ∀ i, i ≤ q → f i ≠ f (q + 1) := fun i h1 h2 => hx ⟨i, h1, h2⟩
      have hq := h (q + 1) (Nat.le_refl _)
      obtain ⟨a, b, h1, h2, h3⟩ := php q (fun i => if f (q + 1) < f i then f i - 1 else f i) fun i hi => by
        have := h i (by omega)
        have := hne i hi
        show (if f (q + 1) < f i then f i - 1 else f i) < q
        split <;> omega
      refine ⟨a, b, h1, by omega, ?_⟩
      have ha := hne a (by omega)
      have hb := hne b h2
      have h3 : (if f (q + 1) < f a then f a - 1 else f a) = (if f (q + 1) < f b then f b - 1 else f b) := h3
      split at h3 <;> split at h3 <;> omega
theorem findD_at {d y : D} : ∀ {l : List D} {i t : Nat}, l[t]? = some y → D.eqv y d = true → (∀ s, s < t → ∀ z, l[s]? = some z → D.eqv z d = false) → findD d i l = some (i + t)
  | [], i, t, h, _, _ => by simp at h
  | x :: l, i, 0, h, e, _ => by
    simp at h; subst h
    rw [findD, if_pos e]; rfl
  | x :: l, i, t + 1, h, e, hs => by
    have := hs 0 (by omega) x rfl
    rw [findD, if_neg (by rw [this]; simp), findD_at (i := i + 1) (t := t) (by simpa using h) e fun s h1 z h2 => hs (s + 1) (by omega) z (by simpa using h2)]
    congr 1; omega
end Wp

set_option linter.all false
set_option maxRecDepth 100000
/-! T0: numbers as texts, parts of texts. Plain Lean. -/
namespace Wp
/- numbers -/
theorem head_app {α : Type} {s t : List α} (h : s ≠ []) : (s ++ t).head? = s.head? := by
  cases s with
  | nil => exact absurd rfl h
  | cons x s => rfl
theorem numTx_lt {n : Nat} (h : n < 10) : numTx n = [48 + n] := by
  unfold numTx
  rw [Nat.toDigits_of_lt_base h]
  simp [Nat.toNat_digitChar_of_lt_ten h]
theorem numTx_step {m d : Nat} (h : 0 < m) (hd : d < 10) : numTx (10 * m + d) = numTx m ++ [48 + d] := by
  rw [← numTx_lt hd]
  unfold numTx
  rw [← Nat.toDigits_append_toDigits (by omega) h hd, List.map_append]
theorem digVal_app (s : Tx) (c : Nat) : digVal (s ++ [c]) = digVal s * 10 + (c - 48) := by
  unfold digVal
  rw [List.foldl_append]; rfl
theorem num_all (n : Nat) : (∀ c ∈ numTx n, digit c = true) ∧ digVal (numTx n) = n ∧ numTx n ≠ [] ∧ (0 < n → (numTx n).head? ≠ some 48) := by
  induction n using Nat.strongRecOn with
  | _ n ih =>
    by_cases h : n < 10
    · rw [numTx_lt h]
      refine ⟨?_, ?_, by simp, ?_⟩
      · intro c hc
        simp at hc
        subst hc
        simp [digit]; omega
      · simp [digVal]
      · intro h0 h1
        simp at h1
        omega
    · obtain ⟨h1, h2, h3, h4⟩ := ih (n / 10) (by omega)
      have e : n = 10 * (n / 10) + n % 10 := by omega
      rw [e, numTx_step (by omega) (by omega)]
      refine ⟨?_, ?_, by simp, ?_⟩
      · intro c hc
        rw [List.mem_append] at hc
        rcases hc with hc | hc
        · exact h1 c hc
        · simp at hc
          subst hc
          simp [digit]; omega
      · rw [digVal_app, h2]; omega
      · intro _
        rw [head_app h3]
        exact h4 (by omega)
theorem numTx_dig {n c : Nat} (h : c ∈ numTx n) : digit c = true := (num_all n).1 c h
theorem numTx_val (n : Nat) : digVal (numTx n) = n := (num_all n).2.1
theorem numTx_ne (n : Nat) : numTx n ≠ [] := (num_all n).2.2.1
theorem numTx_len : ∀ {k n : Nat}, 0 < k → n < 10 ^ k → (numTx n).length ≤ k
  | 0, n, h, _ => by omega
  | k + 1, n, _, h => by
    by_cases h0 : n < 10
    · rw [numTx_lt h0]; simp
    · have hk : 0 < k := by
        rcases Nat.eq_zero_or_pos k with rfl | hk
        · simp at h; omega
        · exact hk
      have e : n = 10 * (n / 10) + n % 10 := by omega
      rw [e, numTx_step (by omega) (by omega), List.length_append, List.length_singleton]
      have := numTx_len (n := n / 10) hk (by rw [Nat.pow_succ] at h; omega)
      omega
theorem val_num : ∀ (k : Nat) (t : Tx), t.length = k → t ≠ [] → (∀ c ∈ t, digit c = true) → (t.head? = some 48 → t = [48]) → numTx (digVal t) = t := by
  intro k
  induction k with
  | zero => intro t h1 h2; exact absurd (List.length_eq_zero_iff.mp h1) h2
  | succ k ih =>
    intro t h1 h2 h3 h4
    rcases List.eq_nil_or_concat t with rfl | ⟨s, c, rfl⟩
    · exact absurd rfl h2
    · rw [List.concat_eq_append] at h1 h3 h4 ⊢
      have hc := h3 c (by simp)
      simp [digit] at hc
      rw [digVal_app]
      by_cases hs : s = []
      · subst hs
        rw [show digVal [] = 0 from rfl, numTx_lt (by omega)]
        simp; omega
      · have hh : s.head? ≠ some 48 := by
          intro hh
          have := h4 (by rw [head_app hs]; exact hh)
          have := congrArg List.length this
          simp at this
          exact hs this
        have e := ih s (by simpa using h1) hs (fun c hc => h3 c (by simp [hc])) (fun z => absurd z hh)
        have hp : 0 < digVal s := by
          rcases Nat.eq_zero_or_pos (digVal s) with h0 | h0
          · rw [h0, numTx_lt (by omega)] at e
            rw [← e] at hh
            exact absurd rfl hh
          · exact h0
        rw [Nat.mul_comm, numTx_step hp (by omega), e]
        congr 2; omega
theorem digVal_lt : ∀ (k : Nat) (t : Tx), t.length = k → (∀ c ∈ t, digit c = true) → digVal t < 10 ^ k := by
  intro k
  induction k with
  | zero => intro t h1 _; rw [List.length_eq_zero_iff.mp h1]; decide
  | succ k ih =>
    intro t h1 h3
    rcases List.eq_nil_or_concat t with rfl | ⟨s, c, rfl⟩
    · simp at h1
    · rw [List.concat_eq_append] at h1 h3 ⊢
      have hc := h3 c (by simp)
      simp [digit] at hc
      have := ih s (by simpa using h1) (fun c hc => h3 c (by simp [hc]))
      rw [digVal_app, Nat.pow_succ]; omega
/-- a whole number from 0 on as the texts have it -/
def natOf (t : Tx) : Option Nat := if t ≠ [] ∧ t.length ≤ 30 ∧ t.all digit = true ∧ (t.head? = some 48 → t = [48]) then some (digVal t) else none
theorem natOf_some {t : Tx} {n : Nat} (h : natOf t = some n) : numTx n = t ∧ n < 10 ^ 30 := by
  unfold natOf at h
  split at h
  · rename_i hh
    obtain ⟨h1, h2, h3, h4⟩ := hh
    have h3' : ∀ c ∈ t, digit c = true := List.all_eq_true.mp h3
    have e : digVal t = n := by simpa using h
    rw [← e]
    exact ⟨val_num _ t rfl h1 h3' h4, Nat.lt_of_lt_of_le (digVal_lt _ t rfl h3') (Nat.pow_le_pow_right (by omega) h2)⟩
  · simp at h
theorem natOf_num {n : Nat} (h : n < 10 ^ 30) : natOf (numTx n) = some n := by
  unfold natOf
  rw [if_pos, numTx_val]
  refine ⟨numTx_ne n, numTx_len (by omega) h, List.all_eq_true.mpr fun c hc => numTx_dig hc, fun hh => ?_⟩
  rcases Nat.eq_zero_or_pos n with rfl | h0
  · rfl
  · exact absurd hh ((num_all n).2.2.2 h0)
theorem natOf_bad {t : Tx} {c : Nat} (hc : c ∈ t) (hd : digit c = false) : natOf t = none := by
  unfold natOf
  rw [if_neg]
  rintro ⟨_, _, h, _⟩
  rw [List.all_eq_true.mp h c hc] at hd
  exact Bool.noConfusion hd
theorem natOf_nil : natOf [] = none := by simp [natOf]
/- parts -/
theorem pre1 (c x : Nat) (r : Tx) : pre [c] (x :: r) = (x == c) := by simp [pre]
theorem spl_cons (c : Nat) (acc : Tx) (x : Nat) (r : Tx) : spl [c] 0 acc (x :: r) = if x = c then acc :: spl [c] 0 [] r else spl [c] 0 (acc ++ [x]) r := by
  rw [spl, pre1]
  by_cases h : x = c <;> simp [h]
theorem spl_nil (S acc : Tx) : spl S 0 acc [] = [acc] := by rw [spl]
theorem par_cons (c : Nat) (acc : Tx) (x : Nat) (r : Tx) : par [c] acc (x :: r) = if x = c then some (acc, r) else par [c] (acc ++ [x]) r := by
  rw [par, pre1]
  by_cases h : x = c <;> simp [h]
theorem par_nil (S acc : Tx) : par S acc [] = none := by rw [par]
theorem spl_par (c : Nat) : ∀ (t acc : Tx), spl [c] 0 acc t = match par [c] acc t with | none => [acc ++ t] | some (a, b) => a :: spl [c] 0 [] b
  | [], acc => by rw [spl_nil, par_nil]; simp
  | x :: r, acc => by
    rw [spl_cons, par_cons]
    by_cases h : x = c
    · simp [h]
    · rw [if_neg h, if_neg h, spl_par c r (acc ++ [x])]
      cases par [c] (acc ++ [x]) r with
      | none => simp
      | some ab => rfl
theorem spl_ne (c : Nat) (t acc : Tx) : spl [c] 0 acc t ≠ [] := by
  rw [spl_par]
  cases par [c] acc t with
  | none => simp
  | some ab => simp
theorem join_cons {S : Tx} {x : Tx} {l : List Tx} (h : l ≠ []) : joinL S (x :: l) = x ++ S ++ joinL S l := by
  cases l with
  | nil => exact absurd rfl h
  | cons y l => rw [joinL]
theorem join_spl (c : Nat) : ∀ (t acc : Tx), joinL [c] (spl [c] 0 acc t) = acc ++ t
  | [], acc => by rw [spl_nil]; simp [joinL]
  | x :: r, acc => by
    rw [spl_cons]
    by_cases h : x = c
    · rw [if_pos h, join_cons (spl_ne c r []), join_spl c r []]; simp [h]
    · rw [if_neg h, join_spl c r (acc ++ [x])]; simp
theorem spl_word (c : Nat) : ∀ (w acc r : Tx), c ∉ w → spl [c] 0 acc (w ++ c :: r) = (acc ++ w) :: spl [c] 0 [] r
  | [], acc, r, _ => by rw [List.nil_append, spl_cons, if_pos rfl, List.append_nil]
  | x :: w, acc, r, h => by
    rw [List.mem_cons, not_or] at h
    rw [List.cons_append, spl_cons, if_neg (fun z => h.1 z.symm), spl_word c w (acc ++ [x]) r h.2]; simp
theorem spl_last (c : Nat) : ∀ (w acc : Tx), c ∉ w → spl [c] 0 acc w = [acc ++ w]
  | [], acc, _ => by rw [spl_nil, List.append_nil]
  | x :: w, acc, h => by
    rw [List.mem_cons, not_or] at h
    rw [spl_cons, if_neg (fun z => h.1 z.symm), spl_last c w (acc ++ [x]) h.2]; simp
theorem spl_join (c : Nat) : ∀ {ws : List Tx}, ws ≠ [] → (∀ w ∈ ws, c ∉ w) → spl [c] 0 [] (joinL [c] ws) = ws
  | [], h, _ => absurd rfl h
  | [w], _, h => by rw [joinL, spl_last c w [] (h w (by simp))]; simp
  | w :: v :: ws, _, h => by
    rw [joinL, List.append_assoc, List.singleton_append, spl_word c w [] _ (h w (by simp)), spl_join c (by simp) fun u hu => h u (List.mem_cons_of_mem _ hu)]; simp
theorem par_some (S : Tx) : ∀ {t acc a b : Tx}, par S acc t = some (a, b) → acc ++ t = a ++ S ++ b
  | [], acc, a, b, h => by rw [par_nil] at h; simp at h
  | x :: r, acc, a, b, h => by
    rw [par] at h
    split at h
    · rename_i hp
      simp at h
      obtain ⟨rfl, rfl⟩ := h
      unfold pre at hp
      have e : S = (x :: r).take S.length := by simpa using (eq_of_beq hp).symm
      calc acc ++ x :: r = acc ++ ((x :: r).take S.length ++ (x :: r).drop S.length) := by rw [List.take_append_drop]
        _ = _ := by rw [← e]; simp
    · have := par_some S h
      rw [← this]; simp
theorem par_no (c : Nat) : ∀ (t acc : Tx), c ∉ t → par [c] acc t = none
  | [], acc, _ => par_nil _ _
  | x :: r, acc, h => by
    rw [List.mem_cons, not_or] at h
    rw [par_cons, if_neg (fun z => h.1 z.symm), par_no c r _ h.2]
theorem par_no' (c : Nat) : ∀ {t acc : Tx}, par [c] acc t = none → c ∉ t
  | [], acc, _ => by simp
  | x :: r, acc, h => by
    rw [par_cons] at h
    by_cases hx : x = c
    · rw [if_pos hx] at h; simp at h
    · rw [if_neg hx] at h
      rw [List.mem_cons, not_or]
      exact ⟨fun z => hx z.symm, par_no' c h⟩
theorem par_word (c : Nat) (w acc r : Tx) : c ∉ w → par [c] acc (w ++ c :: r) = some (acc ++ w, r) := by
  induction w generalizing acc with
  | nil => intro _; rw [List.nil_append, par_cons, if_pos rfl, List.append_nil]
  | cons x w ih =>
    intro h
    rw [List.mem_cons, not_or] at h
    rw [List.cons_append, par_cons, if_neg (fun z => h.1 z.symm), ih (acc ++ [x]) h.2]; simp
theorem par_fst (c : Nat) : ∀ {t acc a b : Tx}, par [c] acc t = some (a, b) → c ∉ acc → c ∉ a
  | [], acc, a, b, h, _ => by rw [par_nil] at h; simp at h
  | x :: r, acc, a, b, h, hn => by
    rw [par_cons] at h
    by_cases hx : x = c
    · rw [if_pos hx] at h
      simp at h
      rw [← h.1]; exact hn
    · rw [if_neg hx] at h
      refine par_fst c h ?_
      rw [List.mem_append, not_or]
      exact ⟨hn, by simpa using fun z => hx z.symm⟩
/-- parted by a sign between two spaces -/
theorem par3 (s : Nat) (hs : s ≠ 32) : ∀ (w acc r : Tx), s ∉ w → par [32, s, 32] acc (w ++ [32, s, 32] ++ r) = some (acc ++ w, r)
  | [], acc, r, _ => by
    rw [List.nil_append, List.cons_append, par, if_pos (by simp [pre])]; simp
  | x :: w, acc, r, h => by
    rw [List.mem_cons, not_or] at h
    rw [List.cons_append, List.cons_append, par, if_neg, par3 s hs w (acc ++ [x]) r h.2]
    · simp
    · cases w with
      | nil => simp [pre]; intro _ z; exact absurd z.symm hs
      | cons y w =>
        simp only [List.mem_cons, not_or] at h
        simp [pre]; intro _ z; exact absurd z.symm h.2.1
/- lengths -/
/-- all words' signs and one for each -/
def tl (ws : List Tx) : Nat := (ws.map (·.length)).sum + ws.length
theorem tl_nil : tl [] = 0 := rfl
theorem tl_cons (w : Tx) (ws : List Tx) : tl (w :: ws) = w.length + 1 + tl ws := by simp [tl]; omega
theorem tl_app (a b : List Tx) : tl (a ++ b) = tl a + tl b := by simp [tl]; omega
theorem tl_take (i : Nat) (a : List Tx) : tl (a.take i) ≤ tl a := by
  have := tl_app (a.take i) (a.drop i)
  rw [List.take_append_drop] at this; omega
theorem tl_drop (i : Nat) (a : List Tx) : tl (a.drop i) ≤ tl a := by
  have := tl_app (a.take i) (a.drop i)
  rw [List.take_append_drop] at this; omega
theorem tl_split (i : Nat) (a : List Tx) : tl (a.take i) + tl (a.drop i) = tl a := by rw [← tl_app, List.take_append_drop]
theorem tl_mem : ∀ {a : List Tx} {w : Tx}, w ∈ a → w.length + 1 ≤ tl a
  | [], w, h => by simp at h
  | x :: a, w, h => by
    rw [tl_cons]
    rcases List.mem_cons.mp h with rfl | h
    · omega
    · have := tl_mem h; omega
theorem tl_len (a : List Tx) : a.length ≤ tl a := by simp [tl]
theorem join_len (c : Nat) : ∀ (ws : List Tx), (joinL [c] ws).length ≤ tl ws
  | [] => by simp [joinL, tl]
  | [w] => by simp [joinL, tl]
  | w :: v :: ws => by
    rw [joinL, tl_cons]
    have := join_len c (v :: ws)
    simp only [List.length_append, List.length_singleton]; omega
theorem join_len' (c : Nat) : ∀ (ws : List Tx), tl ws ≤ (joinL [c] ws).length + 1
  | [] => by simp [joinL, tl]
  | [w] => by simp [joinL, tl]
  | w :: v :: ws => by
    rw [joinL, tl_cons]
    have := join_len' c (v :: ws)
    simp only [List.length_append, List.length_singleton]; omega
theorem spl_len (c : Nat) (t : Tx) : tl (spl [c] 0 [] t) ≤ t.length + 1 := by
  have := join_len' c (spl [c] 0 [] t)
  rw [join_spl, List.nil_append] at this
  exact this
/- all or none -/
def allO {α : Type} : List (Option α) → Option (List α)
  | [] => some []
  | none :: _ => none
  | some a :: r => (allO r).map (a :: ·)
theorem allO_some {α : Type} : ∀ {l : List (Option α)} {as : List α}, allO l = some as → l = as.map some
  | [], as, h => by simp [allO] at h; subst h; rfl
  | none :: r, as, h => by simp [allO] at h
  | some a :: r, as, h => by
    rw [allO] at h
    cases hr : allO r with
    | none => rw [hr] at h; simp at h
    | some bs =>
      rw [hr] at h
      simp at h
      subst h
      rw [allO_some hr]; rfl
theorem allO_map {α : Type} : ∀ (as : List α), allO (as.map some) = some as
  | [] => rfl
  | a :: as => by rw [List.map_cons, allO, allO_map as]; rfl
theorem allO_none {α : Type} : ∀ {l : List (Option α)}, allO l = none → none ∈ l
  | [], h => by simp [allO] at h
  | none :: r, h => by simp
  | some a :: r, h => by
    rw [allO] at h
    cases hr : allO r with
    | none => exact List.mem_cons_of_mem _ (allO_none hr)
    | some bs => rw [hr] at h; simp at h
/-- of words -/
theorem words_some {α : Type} {f : Tx → Option α} {sh : α → Tx} (hf : ∀ w a, f w = some a → sh a = w) (c : Nat) {t : Tx} {as : List α} (h : allO ((spl [c] 0 [] t).map f) = some as) : joinL [c] (as.map sh) = t := by
  have e := allO_some h
  have e2 : as.map sh = spl [c] 0 [] t := by
    apply List.ext_getElem?
    intro i
    have ei := congrArg (·[i]?) e
    simp only [List.getElem?_map] at ei ⊢
    cases h1 : (spl [c] 0 [] t)[i]? with
    | none =>
      rw [h1] at ei
      cases h2 : as[i]? with
      | none => rfl
      | some a => rw [h2] at ei; simp at ei
    | some w =>
      rw [h1] at ei
      cases h2 : as[i]? with
      | none => rw [h2] at ei; simp at ei
      | some a =>
        rw [h2] at ei
        simp at ei
        simp [hf w a ei]
  rw [e2, join_spl]; simp
theorem words_show {α : Type} {f : Tx → Option α} {sh : α → Tx} (c : Nat) {as : List α} (h0 : as ≠ []) (hf : ∀ a ∈ as, f (sh a) = some a ∧ c ∉ sh a) : allO ((spl [c] 0 [] (joinL [c] (as.map sh))).map f) = some as := by
  rw [spl_join c (by simpa using h0) fun w hw => by
    rw [List.mem_map] at hw
    obtain ⟨a, ha, rfl⟩ := hw
    exact (hf a ha).2]
  rw [List.map_map, show as.map (f ∘ sh) = as.map some from List.map_congr_left fun a ha => (hf a ha).1, allO_map]
end Wp

set_option linter.all false
set_option maxRecDepth 100000
/-! T0b: texts in the small language. Plain Lean. -/
namespace Wp
@[simp] theorem e_callv (tbl f es ρ μ) : ev (.callv tbl f es) ρ μ = (ev f ρ μ).bind fun fv μ0 => match fv with
    | .v (.fn x) => match tbl.lookup x with
      | some g => (evs es ρ μ0).bind fun as μ1 => (g as μ1).bind fun d μ2 => .ok (.v d) μ2
      | none => .no
    | _ => .no := by rw [ev] <;> rfl
@[simp] theorem s_tryV (n0 b c i k f ρ μ) : ex n0 (.tryV b c i k f) ρ μ = match exs n0 b ρ μ with
    | .exc c' d ρ' μ' => if c' = c ∧ i < ρ'.length ∧ k < ρ'.length ∧ i ≠ k then .nx ((ρ'.set k (some (.v (f d)))).set i none) μ' else .no
    | o => o := by rw [ex] <;> rfl
@[simp] theorem s_swapL (n0 x k l a b ρ μ) : ex n0 (.swapL x k l a b) ρ μ = (ev a ρ μ).st ρ fun va μ1 => (ev b ρ μ1).st ρ fun vb μ2 => (ev x ρ μ2).st ρ fun xa μ3 => (ev k ρ μ3).st ρ fun ka μ4 => match va, xa, ka with
    | .v vd, .c n, .v kd => match μ4[n]? with
      | some ⟨false, c⟩ => match updL c kd vd with
        | some c' => (ev x ρ (μ4.set n ⟨false, c'⟩)).st ρ fun xb μ5 => (ev l ρ μ5).st ρ fun la μ6 => match vb, xb, la with
          | .v wd, .c n2, .v ld => match μ6[n2]? with
            | some ⟨false, c2⟩ => match updL c2 ld wd with
              | some c2' => .nx ρ (μ6.set n2 ⟨false, c2'⟩)
              | none => .no
            | _ => .no
          | _, _, _ => .no
        | none => .no
      | _ => .no
    | _, _, _ => .no := by rw [ex] <;> rfl
@[simp] theorem f_len_s (a) : P.f1 .len (.str a) = if a.length ≤ SL then some (.int a.length) else none := Eq.trans rfl rfl
@[simp] theorem f_str_i (a) : P.f1 .str (.int a) = if a.natAbs.log2 < 1920 then some (.str (intTx a)) else none := Eq.trans rfl rfl
@[simp] theorem f_intS (s) : P.f1 .intS (.str s) = if s.all digit && !s.isEmpty && decide (s.length ≤ 640) then some (.int (digVal s)) else none := Eq.trans rfl rfl
@[simp] theorem f_split (a b) : P.f2 .split (.str a) (.str b) = if !b.isEmpty && low b && decide (a.length + 2 ≤ SL) then some (.lst ((spl b 0 [] a).map .str)) else none := Eq.trans rfl rfl
/-- what partition gives -/
def prt (b a : Tx) : D := match par b [] a with
    | some (x, y) => D.tup [.str x, .str b, .str y]
    | none => D.tup [.str a, .str [], .str []]
theorem prt_some {a b x y : Tx} (h : par b [] a = some (x, y)) : prt b a = .tup [.str x, .str b, .str y] := by unfold prt; rw [h]
theorem prt_none {a b : Tx} (h : par b [] a = none) : prt b a = .tup [.str a, .str [], .str []] := by unfold prt; rw [h]
@[simp] theorem f_part (a b) : P.f2 .partition (.str a) (.str b) = if !b.isEmpty && low b && decide (a.length ≤ SL) then some (prt b a) else none := by
  show (if !b.isEmpty && low b && decide (a.length ≤ SL) then (match par b [] a with
    | some (x, y) => some (D.tup [.str x, .str b, .str y])
    | none => some (D.tup [.str a, .str [], .str []])) else none) = _
  unfold prt
  cases par b [] a <;> rfl
@[simp] theorem f_join (a b) : P.f2 .join (.str a) (.lst b) = (strsOf b).bind fun ys => if (ys.map (·.length)).sum + ys.length * a.length ≤ SL then some (.str (joinL a ys)) else none := Eq.trans rfl rfl
@[simp] theorem f_sw (a b) : P.f2 .startswith (.str a) (.str b) = some (.bl (pre b a)) := Eq.trans rfl rfl
@[simp] theorem f_idx_s (a i) : P.f2 .idx (.str a) (.int i) = if a.length ≤ SL then (atI a i).map fun c => .str [c] else none := Eq.trans rfl rfl
@[simp] theorem cut_s (a l h) : cutD (.str a) l h = if a.length ≤ SL then some (.str (cut a l h)) else none := Eq.trans rfl rfl
@[simp] theorem it_str (s) : itOf (.str s) = some (s.map fun c => .str [c]) := Eq.trans rfl rfl
@[simp] theorem rc_split (s) : recv .split (some (.str s)) = true := Eq.trans rfl rfl
@[simp] theorem rc_part (s) : recv .partition (some (.str s)) = true := Eq.trans rfl rfl
@[simp] theorem rc_join (s) : recv .join (some (.str s)) = true := Eq.trans rfl rfl
@[simp] theorem rc_sw (s) : recv .startswith (some (.str s)) = true := Eq.trans rfl rfl
@[simp] theorem rc_ew (s) : recv .endswith (some (.str s)) = true := Eq.trans rfl rfl
@[simp] theorem in_str (c t) : inOf (.str [c]) (.str t) = some (t.contains c) := Eq.trans rfl rfl
theorem in_lst (a l) : inOf a (.lst l) = if okD a && D.okNs 59 l then some (l.any fun z => D.eqv z a) else none := rfl
theorem strsOf_map : ∀ ws : List Tx, strsOf (ws.map D.str) = some ws
  | [] => rfl
  | w :: ws => by rw [List.map_cons, strsOf, strsOf_map ws]; rfl
theorem join_ok (c : Nat) (ws : List Tx) (h : tl ws ≤ SL) : P.f2 .join (.str [c]) (.lst (ws.map D.str)) = some (.str (joinL [c] ws)) := by
  rw [f_join, strsOf_map]
  simp only [Option.bind_some]
  rw [if_pos]
  unfold tl at h
  simpa using h
/-- none or a thing, as the program has it -/
def oD {α : Type} (f : α → D) : Option α → D
  | none => .non
  | some a => f a
/-- none or a thing, as the law has it -/
def oL {α : Type} (f : α → D) : Option α → D
  | none => .lst []
  | some a => .lst [f a]
@[simp] theorem oD_none {α : Type} (f : α → D) : oD f none = .non := Eq.trans rfl rfl
@[simp] theorem oD_some {α : Type} (f : α → D) (a : α) : oD f (some a) = f a := Eq.trans rfl rfl
@[simp] theorem oL_none {α : Type} (f : α → D) : oL f none = .lst [] := Eq.trans rfl rfl
@[simp] theorem oL_some {α : Type} (f : α → D) (a : α) : oL f (some a) = .lst [f a] := Eq.trans rfl rfl
/-- is it told what it is: none or not -/
def isNo : D → Bool
  | .non => true
  | _ => false
/-- neither a def nor an error nor a script -/
def Pl : D → Bool
  | .fn _ => false
  | .exc _ _ => false
  | .frz _ => false
  | _ => true
theorem f_isN {d : D} (h : Pl d = true) : P.f1 .isN d = some (.bl (isNo d)) := by cases d <;> first | rfl | (simp [Pl] at h)
theorem f_notN {d : D} (h : Pl d = true) : P.f1 .notN d = some (.bl (!isNo d)) := by cases d <;> first | rfl | (simp [Pl] at h)
/-- data of texts, numbers, tuples -/
def Good {α : Type} (f : α → D) : Prop := ∀ a, Pl (f a) = true ∧ isNo (f a) = false
theorem oD_pl {α : Type} {f : α → D} (hf : ∀ a, Pl (f a) = true) (o : Option α) : Pl (oD f o) = true := by
  cases o with
  | none => rfl
  | some a => exact hf a
theorem any_iff {α : Type} (f : α → D) (hf : ∀ a, isNo (f a) = false) : ∀ l : List (Option α), (l.map fun o => isNo (oD f o)).any id = (allO l).isNone
  | [] => rfl
  | none :: l => by rw [allO]; rfl
  | some a :: l => by
    rw [List.map_cons, List.any_cons, any_iff f hf l, allO]
    simp [hf]
theorem digits_is (c : Nat) : [48, 49, 50, 51, 52, 53, 54, 55, 56, 57].contains c = digit c := by
  rw [Bool.eq_iff_iff]
  simp [digit]; omega
/-- is it one of T's signs -/
def fIn (T : Tx) : D → D
  | .str [c] => .bl (T.contains c)
  | _ => .non
def fNin (T : Tx) : D → D
  | .str [c] => .bl (!T.contains c)
  | _ => .non
theorem fIn_map (T t : Tx) : (t.map fun c => D.str [c]).map (fIn T) = t.map fun c => .bl (T.contains c) := by simp [fIn]
theorem fNin_map (T t : Tx) : (t.map fun c => D.str [c]).map (fNin T) = t.map fun c => .bl (!T.contains c) := by simp [fNin]
theorem log_of10 {n : Nat} (h : n < 10 ^ 30) : n.log2 < 1920 := Nat.lt_trans (log_of (Nat.lt_trans h (show 10 ^ 30 < 2 ^ 100 by decide)) (by omega)) (by omega)
def iD (n : Nat) : D := .int (n : Int)
@[simp] theorem intTx_nat (n : Nat) : intTx (n : Int) = numTx n := by
  unfold intTx
  rw [if_neg (by omega)]; simp
end Wp

set_option linter.all false
set_option maxRecDepth 100000
/-! T0c: a text bent once: lengths, spaces. Plain Lean. -/
namespace Wp
/-- what a turn may make of a text -/
inductive Bent (t : Tx) : Tx → Prop
  | ins (s c : Nat) : Bent t (t.take s ++ c :: t.drop s)
  | del (s : Nat) : Bent t (t.take s ++ t.drop (s + 1))
  | chg (s c : Nat) : Bent t (t.take s ++ c :: t.drop (s + 1))
  | wdel (k : Nat) : Bent t (joinL [32] ((spl [32] 0 [] t).take k ++ (spl [32] 0 [] t).drop (k + 1)))
  | wdup (k : Nat) : Bent t (joinL [32] ((spl [32] 0 [] t).take k ++ (((spl [32] 0 [] t).drop k).take 1 ++ (spl [32] 0 [] t).drop k)))
  | swap (i j : Nat) (a b : Tx) (hi : (spl [10] 0 [] t)[i]? = some b) (hj : (spl [10] 0 [] t)[j]? = some a) : Bent t (joinL [10] (((spl [10] 0 [] t).set i a).set j b))
  | ldel (k : Nat) : Bent t (joinL [10] ((spl [10] 0 [] t).take k ++ (spl [10] 0 [] t).drop (k + 1)))
  | ldup (k : Nat) : Bent t (joinL [10] ((spl [10] 0 [] t).take k ++ (((spl [10] 0 [] t).drop k).take 1 ++ (((spl [10] 0 [] t).drop k).take 1 ++ (spl [10] 0 [] t).drop (k + 1)))))
  | app (e : Tx) (he : e = [10] ∨ e = [32] ∨ e = [10, 48] ∨ e = [10, 45]) : Bent t (t ++ e)
/-- all words' spaces -/
def cs (c : Nat) (ws : List Tx) : Nat := (ws.map (·.count c)).sum
theorem cs_app (c : Nat) (a b : List Tx) : cs c (a ++ b) = cs c a + cs c b := by simp [cs]
theorem cs_cons (c : Nat) (w : Tx) (ws : List Tx) : cs c (w :: ws) = w.count c + cs c ws := by simp [cs]
theorem cs_split (c i : Nat) (a : List Tx) : cs c (a.take i) + cs c (a.drop i) = cs c a := by rw [← cs_app, List.take_append_drop]
theorem cs_mem {c : Nat} : ∀ {a : List Tx} {w : Tx}, w ∈ a → w.count c ≤ cs c a
  | [], w, h => by simp at h
  | x :: a, w, h => by
    rw [cs_cons]
    rcases List.mem_cons.mp h with rfl | h
    · omega
    · have := cs_mem (c := c) h; omega
theorem cs_zero {c : Nat} : ∀ {a : List Tx}, (∀ w ∈ a, c ∉ w) → cs c a = 0
  | [], _ => rfl
  | x :: a, h => by
    rw [cs_cons, cs_zero fun w hw => h w (List.mem_cons_of_mem _ hw), List.count_eq_zero.mpr (h x (by simp))]
theorem cs_set (c : Nat) : ∀ {l : List Tx} {i : Nat} {a b : Tx}, l[i]? = some b → cs c (l.set i a) + b.count c = cs c l + a.count c
  | [], i, a, b, h => by simp at h
  | x :: l, 0, a, b, h => by
    simp at h; subst h
    rw [List.set_cons_zero, cs_cons, cs_cons]; omega
  | x :: l, i + 1, a, b, h => by
    rw [List.set_cons_succ, cs_cons, cs_cons]
    have := cs_set c (l := l) (i := i) (a := a) (b := b) (by simpa using h)
    omega
theorem join_cnt (c d : Nat) : ∀ ws : List Tx, (joinL [d] ws).count c ≤ cs c ws + (if d = c then ws.length - 1 else 0)
  | [] => by simp [joinL]
  | [w] => by simp [joinL, cs]
  | w :: v :: ws => by
    have := join_cnt c d (v :: ws)
    rw [joinL, List.count_append, List.count_append, cs_cons]
    by_cases h : d = c
    · subst h
      simp only [List.count_singleton_self, List.length_cons, if_true] at *
      omega
    · have h2 : (d == c) = false := by simpa using h
      rw [if_neg h] at this ⊢
      have h3 : List.count c [d] = 0 := by rw [List.count_cons, h2]; rfl
      omega
theorem join_cnt' (c : Nat) : ∀ ws : List Tx, ws.length + cs c ws ≤ (joinL [c] ws).count c + 1
  | [] => by simp [cs]
  | [w] => by simp [joinL, cs]; omega
  | w :: v :: ws => by
    have := join_cnt' c (v :: ws)
    rw [joinL, List.count_append, List.count_append, cs_cons, List.count_singleton_self]
    simp only [List.length_cons] at *
    omega
theorem spl_free (c : Nat) : ∀ (t acc : Tx), c ∉ acc → ∀ w ∈ spl [c] 0 acc t, c ∉ w
  | [], acc, h, w, hw => by
    rw [spl_nil, List.mem_singleton] at hw
    subst hw; exact h
  | x :: r, acc, h, w, hw => by
    rw [spl_cons] at hw
    split at hw
    · rcases List.mem_cons.mp hw with rfl | hw
      · exact h
      · exact spl_free c r [] (by simp) w hw
    · rename_i hx
      refine spl_free c r (acc ++ [x]) ?_ w hw
      rw [List.mem_append, not_or]
      exact ⟨h, by simpa using fun z => hx z.symm⟩
theorem spl_cnt (c : Nat) (t : Tx) : (spl [c] 0 [] t).length = t.count c + 1 := by
  have h1 := join_cnt' c (spl [c] 0 [] t)
  have h2 := join_cnt c c (spl [c] 0 [] t)
  rw [join_spl, List.nil_append, cs_zero (spl_free c t [] (by simp))] at h1 h2
  have := List.length_pos_iff.mpr (spl_ne c t [])
  simp at h2
  omega
theorem spl_cs {c d : Nat} (hcd : d ≠ c) : ∀ (t acc : Tx), cs c (spl [d] 0 acc t) = acc.count c + t.count c
  | [], acc => by rw [spl_nil]; simp [cs]
  | x :: r, acc => by
    rw [spl_cons]
    split
    · rename_i h
      rw [cs_cons, spl_cs hcd r [], List.count_cons]
      have : (x == c) = false := by rw [h]; simpa using hcd
      simp [this]
    · rw [spl_cs hcd r (acc ++ [x]), List.count_append, List.count_cons (l := r), List.count_cons (l := []), List.count_nil]
      omega
/-- a text's first line -/
def fstL (t : Tx) : Tx := match par [10] [] t with
  | none => t
  | some (a, _) => a
def more (t : Tx) : Bool := (par [10] [] t).isSome
theorem fstL_pre (t : Tx) : ∃ r, t = fstL t ++ r := by
  unfold fstL
  cases h : par [10] [] t with
  | none => exact ⟨[], by simp⟩
  | some ab =>
    obtain ⟨a, b⟩ := ab
    exact ⟨[10] ++ b, by have := par_some _ h; simpa using this⟩
theorem fstL_len (t : Tx) : (fstL t).length ≤ t.length := by
  obtain ⟨r, h⟩ := fstL_pre t
  have := congrArg List.length h
  simp at this; omega
theorem fstL_cnt (c : Nat) (t : Tx) : (fstL t).count c ≤ t.count c := by
  obtain ⟨r, h⟩ := fstL_pre t
  have := congrArg (List.count c) h
  rw [List.count_append] at this
  omega
theorem fstL_no {t : Tx} (h : (10 : Nat) ∉ t) : fstL t = t := by unfold fstL; rw [par_no 10 t [] h]
theorem fstL_join {w : Tx} {ws : List Tx} (h : (10 : Nat) ∉ w) : fstL (joinL [10] (w :: ws)) = w := by
  cases ws with
  | nil => rw [joinL]; exact fstL_no h
  | cons v ws =>
    rw [joinL, List.append_assoc, List.singleton_append]
    unfold fstL
    rw [par_word 10 w [] _ h]; rfl
theorem fstL_joinL {ws : List Tx} (h : ∀ w ∈ ws, (10 : Nat) ∉ w) {k : Nat} (hk : ∀ w ∈ ws, w.count 32 ≤ k) : (fstL (joinL [10] ws)).count 32 ≤ k := by
  cases ws with
  | nil => simp [joinL, fstL, par_nil]
  | cons w ws => rw [fstL_join (h w (by simp))]; exact hk w (by simp)
theorem more_no {t : Tx} (h : more t = false) : fstL t = t := by
  unfold more at h
  unfold fstL
  cases hp : par [10] [] t with
  | none => rfl
  | some ab => rw [hp] at h; simp at h
theorem more_of {t : Tx} (h : (10 : Nat) ∉ t) : more t = false := by unfold more; rw [par_no 10 t [] h]; rfl
theorem cnt_take (c i : Nat) (t : Tx) : (t.take i).count c + (t.drop i).count c = t.count c := by rw [← List.count_append, List.take_append_drop]
theorem cnt_drop1 (c i : Nat) (t : Tx) : (t.drop (i + 1)).count c ≤ (t.drop i).count c := by
  have := cnt_take c 1 (t.drop i)
  rw [List.drop_drop] at this
  omega
theorem cs_drop1 (c i : Nat) (t : List Tx) : cs c ((t.drop i).take 1) + cs c (t.drop (i + 1)) = cs c (t.drop i) := by
  have := cs_split c 1 (t.drop i)
  rw [List.drop_drop] at this
  omega
/-- how many spaces -/
theorem bent_cnt {t u : Tx} (h : Bent t u) : u.count 32 ≤ 2 * t.count 32 + 1 ∧ (fstL u).count 32 ≤ t.count 32 + 1 := by
  have key : ∀ v : Tx, v.count 32 ≤ t.count 32 + 1 → v.count 32 ≤ 2 * t.count 32 + 1 ∧ (fstL v).count 32 ≤ t.count 32 + 1 := fun v hv => ⟨by omega, Nat.le_trans (fstL_cnt 32 v) hv⟩
  have hw0 := cs_zero (spl_free 32 t [] (by simp))
  have hwl := spl_cnt 32 t
  have hl0 := spl_free 10 t [] (by simp)
  have hls := spl_cs (c := 32) (d := 10) (by decide) t []
  simp only [List.count_nil, Nat.zero_add] at hls
  have hm : ∀ w ∈ spl [10] 0 [] t, w.count 32 ≤ t.count 32 := fun w hw => by rw [← hls]; exact cs_mem hw
  cases h with
  | ins s c =>
    refine key _ ?_
    have := cnt_take 32 s t
    rw [List.count_append, List.count_cons]
    split <;> omega
  | del s =>
    refine key _ ?_
    have := cnt_take 32 s t
    have := cnt_drop1 32 s t
    rw [List.count_append]; omega
  | chg s c =>
    refine key _ ?_
    have := cnt_take 32 s t
    have := cnt_drop1 32 s t
    rw [List.count_append, List.count_cons]
    split <;> omega
  | wdel k =>
    refine key _ ?_
    have h1 := join_cnt 32 32 ((spl [32] 0 [] t).take k ++ (spl [32] 0 [] t).drop (k + 1))
    rw [cs_app] at h1
    have h2 := cs_split 32 k (spl [32] 0 [] t)
    have h3 := cs_drop1 32 k (spl [32] 0 [] t)
    simp at h1
    omega
  | wdup k =>
    refine key _ ?_
    have h1 := join_cnt 32 32 ((spl [32] 0 [] t).take k ++ (((spl [32] 0 [] t).drop k).take 1 ++ (spl [32] 0 [] t).drop k))
    rw [cs_app, cs_app] at h1
    have h2 := cs_split 32 k (spl [32] 0 [] t)
    have h3 := cs_drop1 32 k (spl [32] 0 [] t)
    simp at h1
    omega
  | swap i j a b hi hj =>
    have e1 := cs_set 32 (l := spl [10] 0 [] t) (i := i) (a := a) hi
    have hj2 : ((spl [10] 0 [] t).set i a)[j]? = some a := by
      by_cases hij : i = j
      · subst hij
        have := (List.getElem?_eq_some_iff.mp hi).1
        rw [List.getElem?_set_self this]
      · rw [List.getElem?_set_ne hij, hj]
    have e2 := cs_set 32 (l := (spl [10] 0 [] t).set i a) (i := j) (a := b) hj2
    have h1 := join_cnt 32 10 (((spl [10] 0 [] t).set i a).set j b)
    simp at h1
    have hin : ∀ w ∈ ((spl [10] 0 [] t).set i a).set j b, w ∈ spl [10] 0 [] t := fun w hw => by
      rcases List.mem_or_eq_of_mem_set hw with hw | rfl
      · rcases List.mem_or_eq_of_mem_set hw with hw | rfl
        · exact hw
        · exact List.mem_of_getElem? hj
      · exact List.mem_of_getElem? hi
    exact ⟨by omega, Nat.le_trans (fstL_joinL (fun w hw => hl0 w (hin w hw)) (fun w hw => hm w (hin w hw))) (by omega)⟩
  | ldel k =>
    refine key _ ?_
    have h1 := join_cnt 32 10 ((spl [10] 0 [] t).take k ++ (spl [10] 0 [] t).drop (k + 1))
    rw [cs_app] at h1
    have h2 := cs_split 32 k (spl [10] 0 [] t)
    have h3 := cs_drop1 32 k (spl [10] 0 [] t)
    simp at h1
    omega
  | ldup k =>
    have h1 := join_cnt 32 10 ((spl [10] 0 [] t).take k ++ (((spl [10] 0 [] t).drop k).take 1 ++ (((spl [10] 0 [] t).drop k).take 1 ++ (spl [10] 0 [] t).drop (k + 1))))
    rw [cs_app, cs_app, cs_app] at h1
    have h2 := cs_split 32 k (spl [10] 0 [] t)
    have h3 := cs_drop1 32 k (spl [10] 0 [] t)
    simp at h1
    have hin : ∀ w ∈ (spl [10] 0 [] t).take k ++ (((spl [10] 0 [] t).drop k).take 1 ++ (((spl [10] 0 [] t).drop k).take 1 ++ (spl [10] 0 [] t).drop (k + 1))), w ∈ spl [10] 0 [] t := fun w hw => by
      simp only [List.mem_append] at hw
      rcases hw with hw | hw | hw | hw
      · exact List.mem_of_mem_take hw
      · exact List.mem_of_mem_drop (List.mem_of_mem_take hw)
      · exact List.mem_of_mem_drop (List.mem_of_mem_take hw)
      · exact List.mem_of_mem_drop hw
    exact ⟨by omega, Nat.le_trans (fstL_joinL (fun w hw => hl0 w (hin w hw)) (fun w hw => hm w (hin w hw))) (by omega)⟩
  | app e he =>
    refine key _ ?_
    rw [List.count_append]
    rcases he with rfl | rfl | rfl | rfl <;> simp
end Wp

set_option linter.all false
set_option maxRecDepth 100000
/-! T0d: sums of fractions from 0 on; figures. Plain Lean. -/
namespace Wp
/-- in lowest terms -/
def lowN (t q : Nat) : Nat × Nat := (t / Nat.gcd t q, q / Nat.gcd t q)
def addF (a b : Nat × Nat) : Nat × Nat := lowN (a.1 * b.2 + b.1 * a.2) (a.2 * b.2)
def sumF (l : List (Nat × Nat)) : Nat × Nat := l.foldl addF (0, 1)
theorem lowN_pos {t q : Nat} (h : 0 < q) : 0 < (lowN t q).2 := Nat.div_pos (Nat.gcd_le_right t h) (Nat.gcd_pos_of_pos_right t h)
theorem lowN_le (t q : Nat) : (lowN t q).1 ≤ t ∧ (lowN t q).2 ≤ q := ⟨Nat.div_le_self _ _, Nat.div_le_self _ _⟩
theorem lowN_cop {t q : Nat} (h : 0 < q) : Nat.gcd (lowN t q).1 (lowN t q).2 = 1 := Nat.gcd_div_gcd_div_gcd_of_pos_right h
theorem lowN_mul (t q : Nat) : (lowN t q).1 * Nat.gcd t q = t ∧ (lowN t q).2 * Nat.gcd t q = q := ⟨Nat.div_mul_cancel (Nat.gcd_dvd_left t q), Nat.div_mul_cancel (Nat.gcd_dvd_right t q)⟩
theorem cop_eq {a b c d : Nat} (hb : 0 < b) (hd : 0 < d) (h1 : Nat.gcd a b = 1) (h2 : Nat.gcd c d = 1) (h : a * d = c * b) : a = c ∧ b = d := by
  have e1 : b ∣ d := by
    have : b ∣ a * d := ⟨c, by rw [h]; exact Nat.mul_comm _ _⟩
    exact Nat.Coprime.dvd_of_dvd_mul_left (by rw [Nat.coprime_iff_gcd_eq_one, Nat.gcd_comm]; exact h1) this
  have e2 : d ∣ b := by
    have : d ∣ c * b := ⟨a, by rw [← h]; exact Nat.mul_comm _ _⟩
    exact Nat.Coprime.dvd_of_dvd_mul_left (by rw [Nat.coprime_iff_gcd_eq_one, Nat.gcd_comm]; exact h2) this
  have e3 := Nat.dvd_antisymm e1 e2
  subst e3
  exact ⟨Nat.eq_of_mul_eq_mul_right hb h, rfl⟩
theorem lowN_eq {t q u s : Nat} (hq : 0 < q) (hs : 0 < s) (h : t * s = u * q) : lowN t q = lowN u s := by
  obtain ⟨a1, a2⟩ := lowN_mul t q
  obtain ⟨b1, b2⟩ := lowN_mul u s
  have g1 := Nat.gcd_pos_of_pos_right t hq
  have g2 := Nat.gcd_pos_of_pos_right u hs
  have key : (lowN t q).1 * (lowN u s).2 = (lowN u s).1 * (lowN t q).2 := by
    have : ((lowN t q).1 * (lowN u s).2) * (Nat.gcd t q * Nat.gcd u s) = ((lowN u s).1 * (lowN t q).2) * (Nat.gcd t q * Nat.gcd u s) := by
      have e1 : ((lowN t q).1 * (lowN u s).2) * (Nat.gcd t q * Nat.gcd u s) = ((lowN t q).1 * Nat.gcd t q) * ((lowN u s).2 * Nat.gcd u s) := by grind
      have e2 : ((lowN u s).1 * (lowN t q).2) * (Nat.gcd t q * Nat.gcd u s) = ((lowN u s).1 * Nat.gcd u s) * ((lowN t q).2 * Nat.gcd t q) := by grind
      rw [e1, e2, a1, a2, b1, b2, h]
    exact Nat.eq_of_mul_eq_mul_right (Nat.mul_pos g1 g2) this
  obtain ⟨h1, h2⟩ := cop_eq (lowN_pos hq) (lowN_pos hs) (lowN_cop hq) (lowN_cop hs) key
  exact Prod.ext h1 h2
theorem addF_low {A w s : Nat} (hs : 0 < s) : addF (lowN A s) (lowN w s) = lowN (A + w) s := by
  obtain ⟨a1, a2⟩ := lowN_mul A s
  obtain ⟨b1, b2⟩ := lowN_mul w s
  have p1 := lowN_pos (t := A) hs
  have p2 := lowN_pos (t := w) hs
  have g1 := Nat.gcd_pos_of_pos_right A hs
  have g2 := Nat.gcd_pos_of_pos_right w hs
  unfold addF
  apply lowN_eq (Nat.mul_pos p1 p2) hs
  generalize (lowN A s).1 = x at *
  generalize (lowN A s).2 = y at *
  generalize (lowN w s).1 = z at *
  generalize (lowN w s).2 = v at *
  generalize Nat.gcd A s = g at *
  generalize Nat.gcd w s = k at *
  have e : (x * v + z * y) * s = x * v * s + z * y * s := Nat.add_mul _ _ _
  have e1 : x * v * s = A * (y * v) := by rw [← a1]; rw [← a2]; grind
  have e2 : z * y * s = w * (y * v) := by rw [← b1]; rw [← b2]; grind
  rw [e, e1, e2, ← Nat.add_mul]
theorem sum_low {s : Nat} (hs : 0 < s) : ∀ (ws : List Nat) (A : Nat), (ws.map fun w => lowN w s).foldl addF (lowN A s) = lowN (A + ws.sum) s
  | [], A => by simp
  | w :: ws, A => by
    rw [List.map_cons, List.foldl_cons, addF_low hs, sum_low hs ws (A + w), List.sum_cons, Nat.add_assoc]
theorem sum_one {ws : List Nat} (hs : 0 < ws.sum) : sumF (ws.map fun w => lowN w ws.sum) = (1, 1) := by
  have h := sum_low hs ws 0
  have h0 : lowN 0 ws.sum = (0, 1) := by
    unfold lowN
    rw [Nat.gcd_zero_left, Nat.zero_div, Nat.div_self hs]
  rw [h0, Nat.zero_add] at h
  unfold sumF
  rw [h]
  unfold lowN
  rw [Nat.gcd_self, Nat.div_self hs]
/-- numbers of the texts -/
def BdQ (x : Nat × Nat) : Prop := x.1 < 10 ^ 30 ∧ 0 < x.2 ∧ x.2 < 10 ^ 30
theorem addF_bd {a b : Nat × Nat} {k : Nat} (h1 : a.1 ≤ 2 ^ (101 * k + 1)) (h2 : a.2 ≤ 2 ^ (100 * k)) (h3 : 0 < a.2) (hb : BdQ b) :
    a.1 * b.2 + b.1 * a.2 ≤ 2 ^ (101 * (k + 1) + 1) ∧ a.2 * b.2 ≤ 2 ^ (100 * (k + 1)) ∧ 0 < a.2 * b.2 := by
  obtain ⟨b1, b2, b3⟩ := hb
  have l1 : b.1 ≤ 2 ^ 100 := Nat.le_of_lt (Nat.lt_trans b1 (by decide))
  have l2 : b.2 ≤ 2 ^ 100 := Nat.le_of_lt (Nat.lt_trans b3 (by decide))
  have m1 := Nat.mul_le_mul h1 l2
  have m2 := Nat.mul_le_mul l1 h2
  have m3 := Nat.mul_le_mul h2 l2
  rw [← Nat.pow_add] at m1 m2 m3
  refine ⟨?_, by rw [show 100 * (k + 1) = 100 * k + 100 by omega]; exact m3, Nat.mul_pos h3 b2⟩
  have n1 : 2 ^ (101 * k + 1 + 100) ≤ 2 ^ (101 * (k + 1)) := Nat.pow_le_pow_right (by omega) (by omega)
  have n2 : 2 ^ (100 + 100 * k) ≤ 2 ^ (101 * (k + 1)) := Nat.pow_le_pow_right (by omega) (by omega)
  rw [Nat.pow_succ]
  omega
theorem sumF_bd : ∀ (l : List (Nat × Nat)) (a : Nat × Nat) (k : Nat), a.1 ≤ 2 ^ (101 * k + 1) → a.2 ≤ 2 ^ (100 * k) → 0 < a.2 → (∀ b ∈ l, BdQ b) →
    (l.foldl addF a).1 ≤ 2 ^ (101 * (k + l.length) + 1) ∧ (l.foldl addF a).2 ≤ 2 ^ (100 * (k + l.length)) ∧ 0 < (l.foldl addF a).2
  | [], a, k, h1, h2, h3, _ => ⟨h1, h2, h3⟩
  | b :: l, a, k, h1, h2, h3, hb => by
    obtain ⟨m1, m2, m3⟩ := addF_bd h1 h2 h3 (hb b List.mem_cons_self)
    have hl := lowN_le (a.1 * b.2 + b.1 * a.2) (a.2 * b.2)
    have := sumF_bd l (addF a b) (k + 1) (Nat.le_trans hl.1 m1) (Nat.le_trans hl.2 m2) (lowN_pos m3) fun c hc => hb c (List.mem_cons_of_mem _ hc)
    rw [List.foldl_cons, List.length_cons, show k + (l.length + 1) = k + 1 + l.length by omega]
    exact this
/- figures -/
def isBit (c : Nat) : Bool := [48, 49].contains c
def bitsOf (t : Tx) : Option (List Nat) := if t.all isBit then some (t.map (· - 48)) else none
def shB (l : List Nat) : Tx := l.map (48 + ·)
theorem isBit_iff {c : Nat} : isBit c = true ↔ c = 48 ∨ c = 49 := by simp [isBit]
theorem bits_some {t : Tx} {l : List Nat} (h : bitsOf t = some l) : shB l = t ∧ ∀ b ∈ l, b < 2 := by
  unfold bitsOf at h
  split at h
  · rename_i ha
    have h := Option.some.inj h
    subst h
    rw [List.all_eq_true] at ha
    refine ⟨?_, fun b hb => ?_⟩
    · unfold shB
      rw [List.map_map]
      refine Eq.trans (List.map_congr_left fun c hc => ?_) (List.map_id t)
      have := isBit_iff.mp (ha c hc)
      simp only [Function.comp, id]
      omega
    · rw [List.mem_map] at hb
      obtain ⟨c, hc, rfl⟩ := hb
      have := isBit_iff.mp (ha c hc)
      omega
  · simp at h
theorem bits_show {l : List Nat} (h : ∀ b ∈ l, b < 2) : bitsOf (shB l) = some l := by
  unfold bitsOf
  rw [if_pos]
  · congr 1
    unfold shB
    rw [List.map_map]
    refine Eq.trans (List.map_congr_left fun c hc => ?_) (List.map_id l)
    simp only [Function.comp, id]
    omega
  · rw [List.all_eq_true]
    intro c hc
    unfold shB at hc
    rw [List.mem_map] at hc
    obtain ⟨b, hb, rfl⟩ := hc
    have := h b hb
    exact isBit_iff.mpr (by omega)
theorem shB_len (l : List Nat) : (shB l).length = l.length := by simp [shB]
theorem shB_not {c : Nat} {l : List Nat} (h : ∀ b ∈ l, b < 2) (h1 : c ≠ 48) (h2 : c ≠ 49) : c ∉ shB l := by
  unfold shB
  rw [List.mem_map]
  rintro ⟨b, hb, e⟩
  have := h b hb
  omega
theorem joinE : ∀ ws : List Tx, joinL [] ws = ws.flatten
  | [] => rfl
  | [w] => by simp [joinL]
  | w :: v :: ws => by rw [joinL, joinE (v :: ws)]; simp
theorem join_bits : ∀ l : List Nat, (∀ b ∈ l, b < 2) → joinL [] (l.map numTx) = shB l := fun l h => by
  rw [joinE]
  unfold shB
  induction l with
  | nil => rfl
  | cons b l ih =>
    rw [List.map_cons, List.flatten_cons, ih fun c hc => h c (List.mem_cons_of_mem _ hc), numTx_lt (by have := h b List.mem_cons_self; omega)]; rfl
theorem sum_ones {α : Type} : ∀ l : List α, (l.map fun _ => 1).sum = l.length
  | [] => rfl
  | x :: l => by rw [List.map_cons, List.sum_cons, sum_ones l, List.length_cons]; omega
theorem join_okE {l : List Nat} (h : ∀ b ∈ l, b < 2) (hl : l.length ≤ SL) : P.f2 .join (.str []) (.lst ((l.map numTx).map D.str)) = some (.str (shB l)) := by
  rw [f_join, strsOf_map]
  simp only [Option.bind_some]
  rw [if_pos, join_bits l h]
  have : ((l.map numTx).map (·.length)).sum = l.length := by
    have : (l.map numTx).map (·.length) = l.map fun _ => 1 := by
      rw [List.map_map]
      refine List.map_congr_left fun b hb => ?_
      have := h b hb
      simp only [Function.comp]
      rw [numTx_lt (by omega)]; rfl
    rw [this, sum_ones]
  rw [this]
  simpa using hl
def bitsD (l : List Nat) : D := .tup (l.map iD)
/-- figures of a text -/
def ends (r : Tx) : Bool := r.drop (r.length - 1) == [41]
def figOf (w : Tx) : Option (List (List Nat)) := match par [40] [] w with
  | none => none
  | some (a, r) => if ends r = true ∧ 2 ≤ r.length then allO [bitsOf a, bitsOf r.dropLast] else none
def tosOf (w : Tx) : Option (List Nat) := if w = [45] then some [] else if w = [] then none else bitsOf w
end Wp

set_option linter.all false
set_option maxRecDepth 100000
/-! U1: numbers read from texts. -/
namespace Tw
open Wp Lw
theorem s_integer_of (t : Tx) (h : t.length ≤ 1000000) (μ : Mu) : F_integer_of [.v (.str t)] μ = .ok (oD iD (natOf t)) μ := by
  have hS : t.length ≤ SL := by rw [SL_eq]; omega
  have hS0 : ([48, 49, 50, 51, 52, 53, 54, 55, 56, 57] : Tx).length ≤ SL := by rw [SL_eq]; decide
  refine run_of ?_
  generalize hx : exs _ _ _ _ = o
  by_cases h1 : 0 < t.length
  · have hne : t ≠ [] := List.length_pos_iff.mp h1
    have h1' : (0 : Int) < (t.length : Int) := by omega
    by_cases h2 : t.length ≤ 30
    · have h2' : (t.length : Int) ≤ 30 := by omega
      simp -implicitDefEqProofs [D_integer_of, hS, h1, h2, h1', h2'] at hx
      generalize hr : ev (.lc _ _ _ _ _) _ _ = r' at hx
      have hr := lc_o0 hr (xs := t.map fun c => .str [c]) (fIn [48, 49, 50, 51, 52, 53, 54, 55, 56, 57]) (by simp -implicitDefEqProofs) (by simpa using hS) (by
        intro x hx
        rw [List.mem_map] at hx
        obtain ⟨c, _, rfl⟩ := hx
        refine ⟨_, by simp -implicitDefEqProofs; rfl, fun c => ?_⟩
        simp -implicitDefEqProofs [fIn])
      subst hr
      rw [fIn_map] at hx
      simp only [digits_is] at hx
      by_cases h3 : t.all digit = true
      · have h3' : (t.map digit).all id = true := by simpa using h3
        have h6 : t.length ≤ 640 := by omega
        have hl : (digVal t).log2 < 1920 := log_of10 (Nat.lt_of_lt_of_le (digVal_lt _ t rfl (List.all_eq_true.mp h3)) (Nat.pow_le_pow_right (by omega) h2))
        by_cases h4 : t.head? = some 48 → t = [48]
        · have e : numTx (digVal t) = t := val_num _ t rfl hne (List.all_eq_true.mp h3) h4
          have en : natOf t = some (digVal t) := by unfold natOf; rw [if_pos ⟨hne, h2, h3, h4⟩]
          simp -implicitDefEqProofs [blsOf_map, h3', h3, hne, h6, hl, e] at hx
          subst hx
          simp -implicitDefEqProofs [en, iD]
        · have en : natOf t = none := by unfold natOf; rw [if_neg (fun z => h4 z.2.2.2)]
          have e : (numTx (digVal t) == t) = false := by
            rw [beq_eq_false_iff_ne]
            intro e
            have := natOf_num (n := digVal t) (Nat.lt_of_lt_of_le (digVal_lt _ t rfl (List.all_eq_true.mp h3)) (Nat.pow_le_pow_right (by omega) h2))
            rw [e, en] at this
            simp at this
          have e' : ¬ numTx (digVal t) = t := by simpa using e
          simp -implicitDefEqProofs [blsOf_map, h3', h3, hne, h6, hl, e] at hx
          subst hx
          simp -implicitDefEqProofs [en]
      · have en : natOf t = none := by unfold natOf; rw [if_neg (fun z => h3 z.2.2.1)]
        have h3' : (t.map digit).all id = false := by simpa using h3
        simp -implicitDefEqProofs [blsOf_map, h3'] at hx
        subst hx
        simp -implicitDefEqProofs [en]
    · have h2' : ¬ (t.length : Int) ≤ 30 := by omega
      have en : natOf t = none := by unfold natOf; rw [if_neg (fun z => h2 z.2.1)]
      simp -implicitDefEqProofs [D_integer_of, hS, h1, h2, h1', h2'] at hx
      subst hx
      simp -implicitDefEqProofs [en]
  · have : t = [] := List.length_eq_zero_iff.mp (by omega)
    subst this
    have s0 : 0 ≤ SL := Nat.zero_le _
    simp -implicitDefEqProofs [D_integer_of, s0] at hx
    subst hx
    simp -implicitDefEqProofs [natOf_nil]
end Tw

set_option linter.all false
set_option maxRecDepth 100000
/-! U2: lists of what is read. -/
namespace Tw
open Wp Lw
theorem lt_SL {n : Nat} (h : n ≤ 1000000) : n ≤ SL := by rw [SL_eq]; omega
theorem s_natural (t : Tx) (h : t.length ≤ 1000000) (μ : Mu) : F__law_natural [.v (.str t)] μ = .ok (oL iD (natOf t)) μ := by
  have hS : t.length ≤ SL := lt_SL h
  refine run_of ?_
  generalize hx : exs _ _ _ _ = o
  by_cases h1 : t = []
  · subst h1
    simp -implicitDefEqProofs [D__law_natural] at hx
    subst hx
    simp -implicitDefEqProofs [natOf_nil]
  · have h1' : (t == []) = false := by simpa using h1
    by_cases h2 : t.length ≤ 30
    · have h2' : ¬ (30 : Int) < (t.length : Int) := by omega
      have h2'' : ¬ 30 < t.length := by omega
      simp -implicitDefEqProofs [D__law_natural, hS, h1', h2', h2''] at hx
      generalize hr : ev (.lc _ _ _ _ _) _ _ = r' at hx
      have hr := lc_o0 hr (xs := t.map fun c => .str [c]) (fNin [48, 49, 50, 51, 52, 53, 54, 55, 56, 57]) (by simp -implicitDefEqProofs) (by simpa using hS) (by
        intro x hx
        rw [List.mem_map] at hx
        obtain ⟨c, _, rfl⟩ := hx
        refine ⟨_, by simp -implicitDefEqProofs; rfl, fun c => ?_⟩
        simp -implicitDefEqProofs [fNin])
      subst hr
      rw [fNin_map] at hx
      simp only [digits_is] at hx
      by_cases h3 : t.all digit = true
      · have h3' : (t.map fun c => !digit c).any id = false := by simpa using h3
        have h6 : t.length ≤ 640 := by omega
        have hb := blsOf_map t fun c => !digit c
        obtain ⟨x, h0⟩ : ∃ x, t.head? = some x := by
          cases t with
          | nil => exact absurd rfl h1
          | cons x r => exact ⟨x, rfl⟩
        have ha : atI t 0 = some x := by rw [at_zero, ← List.head?_eq_getElem?]; exact h0
        by_cases h4 : x = 48
        · subst h4
          by_cases h5 : t = [48]
          · subst h5
            have en : natOf [48] = some 0 := rfl
            have h7 : digVal [48] = 0 := rfl
            have d48 : digit 48 = true := rfl
            simp -implicitDefEqProofs [blsOf, hS, d48, h7] at hx
            subst hx
            simp -implicitDefEqProofs [en, iD]
          · have en : natOf t = none := by unfold natOf; rw [if_neg]; rintro ⟨_, _, _, z⟩; exact h5 (z h0)
            have h5' : (t == [48]) = false := by simpa using h5
            simp -implicitDefEqProofs [hb, h3', hS, ha, h5'] at hx
            subst hx
            simp -implicitDefEqProofs [en]
        · have en : natOf t = some (digVal t) := by unfold natOf; rw [if_pos]; exact ⟨h1, h2, h3, fun z => absurd (Option.some.inj (h0.symm.trans z)) h4⟩
          have h4' : ([x] == [48]) = false := by simpa using h4
          simp -implicitDefEqProofs [hb, h3', h3, hS, ha, h1, h4', h4, h6] at hx
          subst hx
          simp -implicitDefEqProofs [en, iD]
      · have en : natOf t = none := by unfold natOf; rw [if_neg (fun z => h3 z.2.2.1)]
        have h3' : (t.map fun c => !digit c).any id = true := by
          rw [Bool.not_eq_true, List.all_eq_false] at h3
          obtain ⟨c, hc, hd⟩ := h3
          rw [List.any_eq_true]
          exact ⟨_, List.mem_map.mpr ⟨c, hc, rfl⟩, by simpa using hd⟩
        simp -implicitDefEqProofs [blsOf_map, h3'] at hx
        subst hx
        simp -implicitDefEqProofs [en]
    · have h2' : (30 : Int) < (t.length : Int) := by omega
      have h2'' : 30 < t.length := by omega
      have en : natOf t = none := by unfold natOf; rw [if_neg (fun z => h2 z.2.1)]
      simp -implicitDefEqProofs [D__law_natural, hS, h1', h2', h2''] at hx
      subst hx
      simp -implicitDefEqProofs [en]
def tupD {α : Type} (f : α → D) (as : List α) : D := .tup (as.map f)
theorem oD_all {α : Type} (f : α → D) : ∀ {l : List (Option α)} {as : List α}, allO l = some as → l.map (oD f) = as.map f := fun h => by
  rw [allO_some h, List.map_map]; rfl
theorem s_whole {α : Type} (f : α → D) (hf : Good f) (l : List (Option α)) (hl : l.length ≤ 1000000) (μ : Mu) : F_whole [.v (.lst (l.map (oD f)))] μ = .ok (oD (tupD f) (allO l)) μ := by
  have hS : l.length ≤ SL := lt_SL hl
  refine run_of ?_
  generalize hx : exs _ _ _ _ = o
  simp -implicitDefEqProofs [D_whole] at hx
  generalize hr : ev (.lc _ _ _ _ _) _ _ = r' at hx
  have hr := lc_o0 hr (xs := l.map (oD f)) (fun d => .bl (isNo d)) (by simp -implicitDefEqProofs) (by simpa using hS) (by
    intro x hx
    rw [List.mem_map] at hx
    obtain ⟨c, _, rfl⟩ := hx
    have := f_isN (oD_pl (fun a => (hf a).1) c)
    refine ⟨_, by simp -implicitDefEqProofs; rfl, fun c => ?_⟩
    simp -implicitDefEqProofs [this])
  subst hr
  have hb := blsOf_map l fun o => isNo (oD f o)
  have ha := any_iff f (fun a => (hf a).2) l
  have e : (l.map (oD f)).map (fun d => D.bl (isNo d)) = l.map fun o => D.bl (isNo (oD f o)) := by simp
  rw [e] at hx
  cases h : allO l with
  | none =>
    rw [h] at ha
    simp only [Option.isNone] at ha
    simp -implicitDefEqProofs [hb, ha] at hx
    subst hx
    simp -implicitDefEqProofs
  | some as =>
    rw [h] at ha
    simp only [Option.isNone] at ha
    have e2 := oD_all f h
    simp -implicitDefEqProofs [hb, ha, e2] at hx
    subst hx
    simp -implicitDefEqProofs [tupD]
theorem eqv_lnil (d : D) : D.eqv (.lst [d]) (.lst []) = false := by simp [D.eqv, D.eqvs]
theorem any_nil {α : Type} (f : α → D) : ∀ l : List (Option α), ((l.map (oL f)).any fun z => D.eqv z (.lst [])) = (allO l).isNone
  | [] => rfl
  | none :: l => by simp [allO, D.eqv, D.eqvs]
  | some a :: l => by
    rw [List.map_cons, List.any_cons, any_nil f l, allO, oL_some, eqv_lnil]
    simp
theorem okN_oL {α : Type} {n : Nat} {f : α → D} (hf : ∀ a, D.okN n (f a) = true) (o : Option α) : D.okN (n + 1) (oL f o) = true := by
  cases o with
  | none => rw [oL_none, D.okN, D.okNs]
  | some a => rw [oL_some, D.okN, D.okNs, hf, D.okNs]; rfl
/-- the first of a list -/
def fst0 : D → D
  | .lst (x :: _) => x
  | _ => .non
theorem s_all_in {α : Type} (f : α → D) (hf : ∀ a, D.okN 58 (f a) = true) (l : List (Option α)) (hl : l.length ≤ 1000000) (μ : Mu) : F__law_all_in [.v (.lst (l.map (oL f)))] μ = .ok (oL (tupD f) (allO l)) μ := by
  have hS : l.length ≤ SL := lt_SL hl
  have ok1 : okD (.lst []) = true := rfl
  have ok2 : D.okNs 59 (l.map (oL f)) = true := okNs_map fun a _ => okN_oL hf a
  have hin : inOf (.lst []) (.lst (l.map (oL f))) = some (allO l).isNone := by
    rw [in_lst, ok1, ok2, any_nil]; rfl
  refine run_of ?_
  generalize hx : exs _ _ _ _ = o
  cases h : allO l with
  | none =>
    rw [h] at hin
    simp -implicitDefEqProofs [D__law_all_in, hin] at hx
    subst hx
    simp -implicitDefEqProofs
  | some as =>
    rw [h] at hin
    have e := allO_some h
    simp -implicitDefEqProofs [D__law_all_in, hin] at hx
    generalize hr : ev (.lc _ _ _ _ _) _ _ = r' at hx
    have hr := lc_o0 hr (xs := l.map (oL f)) fst0 (by simp -implicitDefEqProofs) (by simpa using hS) (by
      intro x hx
      rw [e, List.map_map, List.mem_map] at hx
      obtain ⟨c, _, rfl⟩ := hx
      refine ⟨_, by simp -implicitDefEqProofs; rfl, fun c => ?_⟩
      simp -implicitDefEqProofs [fst0])
    subst hr
    have e3 : (l.map (oL f)).map fst0 = as.map f := by
      rw [e, List.map_map, List.map_map]
      exact List.map_congr_left fun a _ => rfl
    rw [e3] at hx
    simp -implicitDefEqProofs at hx
    subst hx
    simp -implicitDefEqProofs [tupD]
end Tw

set_option linter.all false
set_option maxRecDepth 100000
/-! U3: numbers of two parts. -/
namespace Tw
open Wp Lw
theorem n_fmod (a b : Nat) : ((a : Nat) : Int).fmod ((b : Nat) : Int) = ((a % b : Nat) : Int) := by
  rw [Int.fmod_eq_emod_of_nonneg _ (by omega)]; rfl
theorem n_fdiv (a b : Nat) : ((a : Nat) : Int).fdiv ((b : Nat) : Int) = ((a / b : Nat) : Int) := by
  rw [Int.fdiv_eq_ediv_of_nonneg _ (by omega)]; rfl
theorem abs_nat (a : Int) : (if a < 0 then -a else a) = ((a.natAbs : Nat) : Int) := by omega
theorem euclid_step {a b K i : Nat} (hb : b < a) (hp : a * b * 2 ^ i ≤ 2 ^ K) (h0 : b ≠ 0) : b * (a % b) * 2 ^ (i + 1) ≤ 2 ^ K := by
  have h1 : a % b < b := Nat.mod_lt _ (by omega)
  have h2 : b * (a / b) + a % b = a := Nat.div_add_mod a b
  have h3 : 1 ≤ a / b := (Nat.le_div_iff_mul_le (by omega)).mpr (by omega)
  have h4 : b * 1 ≤ b * (a / b) := Nat.mul_le_mul_left _ h3
  have h5 : 2 * (a % b) ≤ a := by omega
  have h6 : b * (2 * (a % b)) ≤ b * a := Nat.mul_le_mul_left _ h5
  have h7 : b * (2 * (a % b)) * 2 ^ i ≤ b * a * 2 ^ i := Nat.mul_le_mul_right _ h6
  have e : b * (a % b) * 2 ^ (i + 1) = b * (2 * (a % b)) * 2 ^ i := by rw [Nat.pow_succ]; grind
  have e2 : b * a * 2 ^ i = a * b * 2 ^ i := by rw [Nat.mul_comm b a]
  omega
theorem s_divisor (p q : Int) (K : Nat) (hK : K ≤ 19000) (hs : p.natAbs * q.natAbs ≤ 2 ^ K) (μ : Mu) : F__law_divisor [.v (.int p), .v (.int q)] μ = .ok (.int (Nat.gcd p.natAbs q.natAbs : Nat)) μ := by
  refine run_of ?_
  simp -implicitDefEqProofs [D__law_divisor, abs_nat, rngOf_int]
  generalize hf : forGo _ _ _ _ _ = o
  obtain ⟨ρ', μ', rfl, hI⟩ := for_ob hf (fun k ρ μ' => μ' = μ ∧ ∃ (a b : Nat) (x : Option A), ρ = [some (.v (.int p)), some (.v (.int q)), some (.v (.int a)), some (.v (.int b)), x] ∧ Nat.gcd a b = Nat.gcd p.natAbs q.natAbs ∧ (k = 0 ∧ a = p.natAbs ∧ b = q.natAbs ∨ ∃ j, k = j + 1 ∧ b < a ∧ a * b * 2 ^ j ≤ 2 ^ K))
    (fun ρ μ' => μ' = μ ∧ ∃ (a : Nat) (x : Option A), ρ = [some (.v (.int p)), some (.v (.int q)), some (.v (.int a)), some (.v (.int 0)), x] ∧ a = Nat.gcd p.natAbs q.natAbs) ⟨rfl, p.natAbs, q.natAbs, none, rfl, rfl, .inl ⟨rfl, rfl, rfl⟩⟩ (by
    rintro i x hx ρ μ' ⟨rfl, a, b, y, rfl, hg, hi⟩
    refine ⟨_, by simp; rfl, ?_⟩
    by_cases h0 : b = 0
    · subst h0
      refine ⟨_, _, .inr ⟨by simp -implicitDefEqProofs; rfl, rfl, a, some (.v x), by simp, by simpa using hg⟩⟩
    · have h0' : ¬ ((b : Int) = 0) := by omega
      refine ⟨_, _, .inl ⟨.inl (by simp -implicitDefEqProofs [h0, n_fmod]; rfl), rfl, b, a % b, some (.v x), by simp, by rw [Nat.gcd_comm, ← Nat.gcd_rec, Nat.gcd_comm]; exact hg, .inr ⟨i, rfl, Nat.mod_lt _ (by omega), ?_⟩⟩⟩
      rcases hi with ⟨rfl, rfl, rfl⟩ | ⟨j, rfl, hj1, hj2⟩
      · have h1 : p.natAbs % q.natAbs ≤ p.natAbs := Nat.mod_le _ _
        have h2 := Nat.mul_le_mul_left q.natAbs h1
        rw [Nat.mul_comm q.natAbs p.natAbs] at h2
        simp; omega
      · exact euclid_step hj1 hj2 h0)
  rcases hI with ⟨rfl, a, b, x, rfl, hg, hi⟩ | ⟨rfl, a, x, rfl, hg⟩
  · have hb : b = 0 := by
      rw [rngL_len] at hi
      obtain ⟨j, hj, h1, h2⟩ : ∃ j, (20000 : Int).toNat = j + 1 ∧ b < a ∧ a * b * 2 ^ j ≤ 2 ^ K := by
        rcases hi with ⟨h, _⟩ | h
        · simp at h
        · exact h
      have hj : 20000 = j + 1 := hj
      by_cases h : b = 0
      · exact h
      · have h3 : 1 ≤ a * b := Nat.mul_pos (by omega) (by omega)
        have h4 := Nat.mul_le_mul_right (2 ^ j) h3
        have h5 : 2 ^ K < 2 ^ j := Nat.pow_lt_pow_right (by omega) (by omega)
        omega
    subst hb
    rw [Nat.gcd_zero_right] at hg
    simp -implicitDefEqProofs [hg]
  · simp -implicitDefEqProofs [hg]
/-- a number from 0 on as the texts have it -/
def qOf (w : Tx) : Option (Nat × Nat) := match par [47] [] w with
  | none => (natOf w).map fun n => (n, 1)
  | some (a, b) => (natOf a).bind fun m => (natOf b).bind fun n => if 1 < n ∧ Nat.gcd m n = 1 then some (m, n) else none
def qD (x : Nat × Nat) : D := .tup [.int (x.1 : Int), .int (x.2 : Int)]
/-- the text of a number -/
def shQ (p : Int) (q : Nat) : Tx := if q = 1 then intTx p else intTx p ++ 47 :: numTx q
theorem lt30 {n : Nat} (h : n < 10 ^ 30) : n < 2 ^ 100 := Nat.lt_trans h (by decide)
theorem lt9000 {n : Nat} (h : n < 10 ^ 30) : n < 2 ^ 9000 := Nat.lt_of_lt_of_le (lt30 h) (Nat.pow_le_pow_right (by omega) (by omega))
theorem intTx_len {p : Int} (h : p.natAbs < 10 ^ 30) : (intTx p).length ≤ 31 := by
  have := numTx_len (by omega) h
  unfold intTx
  split
  · rw [List.length_cons]; omega
  · omega
theorem shQ_len {p : Int} {q : Nat} (h : p.natAbs < 10 ^ 30) (hq : q < 10 ^ 30) : (shQ p q).length ≤ 62 := by
  have := intTx_len h
  have := numTx_len (by omega) hq
  unfold shQ
  split
  · omega
  · rw [List.length_append, List.length_cons]; omega
theorem logI {p : Int} (h : p.natAbs < 10 ^ 30) : p.natAbs.log2 < 1920 := log_of10 h
theorem s_show_number (p : Int) (q : Nat) (h : p.natAbs < 10 ^ 30) (hq : q < 10 ^ 30) (μ : Mu) : F_show_number [.v (.tup [.int p, .int q])] μ = .ok (.str (shQ p q)) μ := by
  have l1 := logI h
  have l2 := log_of10 hq
  have n1 := intTx_len h
  have n2 := numTx_len (k := 30) (by omega) hq
  have b1 : (intTx p).length + 1 ≤ SL := by rw [SL_eq]; omega
  have b2 : (intTx p).length + 1 + (numTx q).length ≤ SL := by rw [SL_eq]; omega
  refine run_of ?_
  by_cases h1 : q = 1
  · subst h1
    simp -implicitDefEqProofs [D_show_number, l1, shQ]
  · have h1' : ¬ (q : Int) = 1 := by omega
    simp -implicitDefEqProofs [D_show_number, l1, l2, shQ, h1, h1', b1, b2]
theorem s_law_show (p : Int) (q : Nat) (h : p.natAbs < 10 ^ 30) (hq : q < 10 ^ 30) (μ : Mu) : F__law_show [.v (.tup [.int p, .int q])] μ = .ok (.str (shQ p q)) μ := by
  have l1 := logI h
  have l2 := log_of10 hq
  have n1 := intTx_len h
  have n2 := numTx_len (k := 30) (by omega) hq
  have b1 : (intTx p).length + 1 ≤ SL := by rw [SL_eq]; omega
  have b2 : (intTx p).length + 1 + (numTx q).length ≤ SL := by rw [SL_eq]; omega
  refine run_of ?_
  by_cases h1 : q = 1
  · subst h1
    simp -implicitDefEqProofs [D__law_show, l1, shQ]
  · have h1' : ¬ (q : Int) = 1 := by omega
    simp -implicitDefEqProofs [D__law_show, l1, l2, shQ, h1, h1', b1, b2]
theorem s_is_number_of (m n : Nat) (hn : n < 10 ^ 30) (μ : Mu) : F_is_number_of [.v (.tup [.int m, .int n])] μ = .ok (.bl (decide (0 < n ∧ Nat.gcd m n = 1))) μ := by
  have hp : ∀ μ, F_is_pair [.v (.tup [.int m, .int n])] μ = .ok (.bl true) μ := by
    intro μ
    refine run_of ?_
    simp -implicitDefEqProofs [D_is_pair, isTy]
  have hi : ∀ (i : Int) μ, F_is_integer [.v (.int i)] μ = .ok (.bl true) μ := by
    intro i μ
    refine run_of ?_
    simp -implicitDefEqProofs [D_is_integer, isTy]
  by_cases h0 : 0 < n
  · have g0 : Nat.gcd m n ≠ 0 := fun h => by have := Nat.eq_zero_of_gcd_eq_zero_right h; omega
    have gl : Nat.gcd m n < 2 ^ 9000 := lt9000 (Nat.lt_of_le_of_lt (Nat.gcd_le_right m h0) hn)
    have dk : divOk ((Nat.gcd m n : Nat) : Int) = true := divOk_of (by omega) (by simpa using gl)
    have h0' : ¬ ((n : Nat) : Int) < 0 := by omega
    have hl : ∀ μ, F_lowest [.v (.int m), .v (.int n)] μ = .ok (.tup [.int ((m / Nat.gcd m n : Nat) : Int), .int ((n / Nat.gcd m n : Nat) : Int)]) μ := by
      intro μ
      have f1 := n_fdiv m (Nat.gcd m n)
      have f2 := n_fdiv n (Nat.gcd m n)
      refine run_of ?_
      simp only [D_lowest]
      simp -implicitDefEqProofs [dk, h0', f1, f2]
    have ok : ∀ a b : Int, okD (.tup [.int a, .int b]) = true := fun a b => okD_ints [a, b]
    have eq : D.eqvs [.int ((m / Nat.gcd m n : Nat) : Int), .int ((n / Nat.gcd m n : Nat) : Int)] [.int (m : Int), .int (n : Int)] = decide (0 < n ∧ Nat.gcd m n = 1) := by
      rw [Bool.eq_iff_iff]
      simp only [D.eqvs, eqv_int', Bool.and_true, Bool.and_eq_true, decide_eq_true_eq]
      constructor
      · rintro ⟨_, h2⟩
        have h2 : n / Nat.gcd m n = n := by omega
        refine ⟨h0, ?_⟩
        have := Nat.div_mul_cancel (Nat.gcd_dvd_right m n)
        rw [h2] at this
        exact Nat.eq_of_mul_eq_mul_left h0 (by omega)
      · rintro ⟨_, h2⟩
        rw [h2]; simp
    have h0i : (0 : Int) < (n : Int) := by omega
    refine run_of ?_
    simp -implicitDefEqProofs [D_is_number_of, hp, hi, hl, ok, h0, h0i, -Int.natCast_ediv, eq]
  · have h0' : ¬ (0 : Int) < (n : Int) := by omega
    refine run_of ?_
    simp -implicitDefEqProofs [D_is_number_of, hp, hi, h0, h0']
theorem s_is_number (m n : Nat) (hn : n < 10 ^ 30) (μ : Mu) : F_is_number [.v (.tup [.int m, .int n])] μ = .ok (.bl (decide (0 < n ∧ Nat.gcd m n = 1))) μ := by
  have e := s_is_number_of m n hn
  refine run_of ?_
  simp -implicitDefEqProofs [D_is_number, e]
theorem gcd_lt {m n k : Nat} (h0 : 0 < n) (h : n < 2 ^ k) (hk : k ≤ 9000) : Nat.gcd m n < 2 ^ 9000 := Nat.lt_of_le_of_lt (Nat.gcd_le_right m h0) (Nat.lt_of_lt_of_le h (Nat.pow_le_pow_right (by omega) hk))
theorem s_lowest_nat (m n k : Nat) (h0 : 0 < n) (hn : n < 2 ^ k) (hk : k ≤ 9000) (μ : Mu) : F_lowest [.v (.int m), .v (.int n)] μ = .ok (.tup [.int ((m / Nat.gcd m n : Nat) : Int), .int ((n / Nat.gcd m n : Nat) : Int)]) μ := by
  have g0 : Nat.gcd m n ≠ 0 := fun h => by have := Nat.eq_zero_of_gcd_eq_zero_right h; omega
  have gl := gcd_lt (m := m) h0 hn hk
  have dk : divOk ((Nat.gcd m n : Nat) : Int) = true := divOk_of (by omega) (by rw [Int.natAbs_natCast]; exact gl)
  have h0' : ¬ ((n : Nat) : Int) < 0 := by omega
  have f1 := n_fdiv m (Nat.gcd m n)
  have f2 := n_fdiv n (Nat.gcd m n)
  refine run_of ?_
  simp only [D_lowest]
  simp -implicitDefEqProofs [dk, h0', f1, f2]
theorem s_law_low_nat (m n k l : Nat) (h0 : 0 < n) (hm : m < 2 ^ l) (hn : n < 2 ^ k) (hk : k ≤ 9000) (hl : l ≤ 9000) (μ : Mu) : F__law_low [.v (.int m), .v (.int n)] μ = .ok (.tup [.int ((m / Nat.gcd m n : Nat) : Int), .int ((n / Nat.gcd m n : Nat) : Int)]) μ := by
  have g0 : Nat.gcd m n ≠ 0 := fun h => by have := Nat.eq_zero_of_gcd_eq_zero_right h; omega
  have gl := gcd_lt (m := m) h0 hn hk
  have dk : divOk ((Nat.gcd m n : Nat) : Int) = true := divOk_of (by omega) (by rw [Int.natAbs_natCast]; exact gl)
  have f1 := n_fdiv m (Nat.gcd m n)
  have f2 := n_fdiv n (Nat.gcd m n)
  have ed := s_divisor m n (l + k) (by omega) (by
    have := Nat.mul_le_mul (Nat.le_of_lt hm) (Nat.le_of_lt hn)
    rw [← Nat.pow_add] at this
    simpa using this)
  simp only [Int.natAbs_natCast] at ed
  have h0i : (0 : Int) < (n : Int) := by omega
  refine run_of ?_
  simp -implicitDefEqProofs [D__law_low, h0, h0i, ed, dk, f1, f2]
end Tw

set_option linter.all false
set_option maxRecDepth 100000
/-! U4: numbers of two parts, read. -/
namespace Tw
open Wp Lw
theorem low47 : low [47] = true := rfl
theorem low32 : low [32] = true := rfl
theorem low10 : low [10] = true := rfl
theorem low45 : low [45] = true := rfl
theorem lowsc : low [32, 59, 32] = true := rfl
theorem good_iD : Good iD := fun a => ⟨rfl, rfl⟩
theorem whole2 (x y : Option Nat) (μ : Mu) : F_whole [.v (.lst [oD iD x, oD iD y])] μ = .ok (oD (tupD iD) (allO [x, y])) μ := s_whole iD good_iD [x, y] (by simp) μ
theorem par_len {S a x y : Tx} (h : par S [] a = some (x, y)) : x.length ≤ a.length ∧ y.length ≤ a.length := by
  have := congrArg List.length (par_some S h)
  simp at this
  omega
theorem q_some {w : Tx} {x : Nat × Nat} (h : qOf w = some x) : shQ x.1 x.2 = w ∧ x.1 < 10 ^ 30 ∧ 0 < x.2 ∧ x.2 < 10 ^ 30 ∧ Nat.gcd x.1 x.2 = 1 := by
  unfold qOf at h
  cases hp : par [47] [] w with
  | none =>
    rw [hp] at h
    simp only [Option.map_eq_some_iff] at h
    obtain ⟨n, hn, rfl⟩ := h
    obtain ⟨h1, h2⟩ := natOf_some hn
    exact ⟨by simp [shQ, h1], h2, Nat.one_pos, show 1 < 10 ^ 30 by decide, by simp⟩
  | some ab =>
    obtain ⟨a, b⟩ := ab
    rw [hp] at h
    simp only [Option.bind_eq_some_iff] at h
    obtain ⟨m, hm, n, hn, h⟩ := h
    split at h
    · rename_i hc
      simp at h
      subst h
      obtain ⟨h1, h2⟩ := natOf_some hm
      obtain ⟨h3, h4⟩ := natOf_some hn
      have := par_some _ hp
      refine ⟨?_, h2, by omega, h4, hc.2⟩
      rw [shQ, if_neg (by show ¬ n = 1; omega)]
      simp only [intTx_nat, h1, h3]
      simpa using this.symm
    · simp at h
theorem not_dig {n c : Nat} (h : digit c = false) : c ∉ numTx n := fun z => by rw [numTx_dig z] at h; exact Bool.noConfusion h
theorem q_show {m n : Nat} (hm : m < 10 ^ 30) (hn : n < 10 ^ 30) (h0 : 0 < n) (hg : Nat.gcd m n = 1) : qOf (shQ m n) = some (m, n) := by
  unfold qOf shQ
  by_cases h1 : n = 1
  · subst h1
    rw [if_pos rfl, intTx_nat, par_no 47 _ _ (not_dig rfl)]
    simp [natOf_num hm]
  · rw [if_neg h1, intTx_nat, par_word 47 _ _ _ (not_dig rfl)]
    simp [natOf_num hm, natOf_num hn, hg]; omega
theorem s_number_of (w : Tx) (h : w.length ≤ 1000000) (μ : Mu) : F_number_of [.v (.str w)] μ = .ok (oD qD (qOf w)) μ := by
  have hS := lt_SL h
  have p30 : (1 : Nat) < 10 ^ 30 := by decide
  refine run_of ?_
  generalize hx : exs _ _ _ _ = o
  cases hp : par [47] [] w with
  | none =>
    have hq : qOf w = (natOf w).map fun n => (n, 1) := by unfold qOf; rw [hp]
    have ep := prt_none hp
    have e1 := s_integer_of w h
    cases hn : natOf w with
    | none =>
      rw [hn] at e1 hq
      have ew := whole2 none (some 1)
      simp -implicitDefEqProofs [allO, iD] at e1 ew hq
      simp -implicitDefEqProofs [D_number_of, hS, low47, ep, e1, ew] at hx
      subst hx
      simp -implicitDefEqProofs [hq]
    | some n =>
      rw [hn] at e1 hq
      obtain ⟨h1, h2⟩ := natOf_some hn
      have ew := whole2 (some n) (some 1)
      simp -implicitDefEqProofs [allO, iD, tupD] at e1 ew hq
      have ei := s_is_number n 1 p30
      have es := s_show_number n 1 (by simpa using h2) p30
      simp -implicitDefEqProofs [shQ, h1] at ei es
      simp -implicitDefEqProofs [D_number_of, hS, low47, ep, e1, ew, ei, es] at hx
      subst hx
      simp -implicitDefEqProofs [hq, qD]
  | some ab =>
    obtain ⟨a, b⟩ := ab
    obtain ⟨la, lb⟩ := par_len hp
    have hq : qOf w = (natOf a).bind fun m => (natOf b).bind fun n => if 1 < n ∧ Nat.gcd m n = 1 then some (m, n) else none := by unfold qOf; rw [hp]
    have ep := prt_some hp
    have e1 := s_integer_of a (by omega)
    have e2 := s_integer_of b (by omega)
    have ew := whole2 (natOf a) (natOf b)
    cases hm : natOf a with
    | none =>
      rw [hm] at e1 hq ew
      simp -implicitDefEqProofs [allO, iD] at e1 ew hq
      simp -implicitDefEqProofs [D_number_of, hS, low47, ep, e1, e2, ew] at hx
      subst hx
      simp -implicitDefEqProofs [hq]
    | some m =>
      cases hn : natOf b with
      | none =>
        rw [hm] at e1 hq ew
        rw [hn] at e2 hq ew
        simp -implicitDefEqProofs [allO, iD] at e1 e2 ew hq
        simp -implicitDefEqProofs [D_number_of, hS, low47, ep, e1, e2, ew] at hx
        subst hx
        simp -implicitDefEqProofs [hq]
      | some n =>
        rw [hm] at e1 hq ew
        rw [hn] at e2 hq ew
        obtain ⟨h1, h2⟩ := natOf_some hm
        obtain ⟨h3, h4⟩ := natOf_some hn
        have ei := s_is_number m n h4
        have es := s_show_number m n (by simpa using h2) h4
        have hw := par_some _ hp
        simp at hw
        simp -implicitDefEqProofs [allO, iD, tupD] at e1 e2 ew hq
        by_cases hc : 1 < n ∧ Nat.gcd m n = 1
        · have hc' : 0 < n ∧ Nat.gcd m n = 1 := ⟨by omega, hc.2⟩
          have hs : shQ (m : Int) n = w := by
            rw [shQ, if_neg (by omega), intTx_nat, h1, h3, hw]
          rw [if_pos hc] at hq
          simp only [hc', hs, and_self, decide_true] at ei es
          simp -implicitDefEqProofs [D_number_of, hS, low47, ep, e1, e2, ew, ei, es] at hx
          subst hx
          simp -implicitDefEqProofs [hq, qD]
        · rw [if_neg hc] at hq
          by_cases h5 : 0 < n ∧ Nat.gcd m n = 1
          · have n1 : n = 1 := by
              rcases Nat.lt_or_ge 1 n with z | z
              · exact absurd ⟨z, h5.2⟩ hc
              · omega
            have hs : (shQ (m : Int) n == w) = false := by
              rw [beq_eq_false_iff_ne, shQ, if_pos n1, intTx_nat]
              intro z
              have : (47 : Nat) ∈ w := by rw [hw]; simp
              rw [← z] at this
              exact not_dig rfl this
            simp only [h5, and_self, decide_true] at ei
            simp -implicitDefEqProofs [D_number_of, hS, low47, ep, e1, e2, ew, ei, es, hs] at hx
            subst hx
            simp -implicitDefEqProofs [hq]
          · simp only [h5, decide_false] at ei
            simp -implicitDefEqProofs [D_number_of, hS, low47, ep, e1, e2, ew, ei] at hx
            subst hx
            simp -implicitDefEqProofs [hq]
end Tw

set_option linter.all false
set_option maxRecDepth 100000
/-! U5: the law's numbers; signed ones. -/
namespace Tw
open Wp Lw
theorem oL_idx {α : Type} (f : α → D) (a : α) : P.f2 .idx (oL f (some a)) (.int 0) = some (f a) := by simp
theorem s_part_in (w : Tx) (h : w.length ≤ 1000000) (μ : Mu) : F__law_part_in [.v (.str w)] μ = .ok (oL qD (qOf w)) μ := by
  have hS := lt_SL h
  have hS2 : w.length + 2 ≤ SL := by rw [SL_eq]; omega
  have hl := spl_len 47 w
  have ok1 : okD (.lst []) = true := rfl
  refine run_of ?_
  generalize hx : exs _ _ _ _ = o
  simp -implicitDefEqProofs [D__law_part_in, hS2, low47] at hx
  generalize hr : ev (.lc _ _ _ _ _) _ _ = r' at hx
  have hr := lc_o0 hr (xs := (spl [47] 0 [] w).map .str) (fun d => match d with | .str t => oL iD (natOf t) | _ => .non) (by simp -implicitDefEqProofs) (by
    have := tl_len (spl [47] 0 [] w)
    rw [List.length_map, SL_eq]; omega) (by
    intro x hx
    rw [List.mem_map] at hx
    obtain ⟨c, hc, rfl⟩ := hx
    have := tl_mem hc
    have e := s_natural c (by omega)
    refine ⟨_, by simp -implicitDefEqProofs; rfl, fun c => ?_⟩
    simp -implicitDefEqProofs [e])
  subst hr
  have em : ((spl [47] 0 [] w).map D.str).map (fun d => match d with | .str t => oL iD (natOf t) | _ => .non) = ((spl [47] 0 [] w).map natOf).map (oL iD) := by simp
  rw [em] at hx
  have ok2 : D.okNs 59 (((spl [47] 0 [] w).map natOf).map (oL iD)) = true := okNs_map fun a _ => okN_oL (fun a => by rw [iD, D.okN]) a
  have hin : inOf (.lst []) (.lst (((spl [47] 0 [] w).map natOf).map (oL iD))) = some (allO ((spl [47] 0 [] w).map natOf)).isNone := by
    rw [in_lst, ok1, ok2, any_nil]; rfl
  cases hp : par [47] [] w with
  | none =>
    have hq : qOf w = (natOf w).map fun n => (n, 1) := by unfold qOf; rw [hp]
    have es : spl [47] 0 [] w = [w] := by rw [spl_par, hp]; rfl
    rw [es] at hx hin
    cases hn : natOf w with
    | none =>
      rw [hn] at hq
      simp -implicitDefEqProofs [hn, allO] at hin hq hx
      simp -implicitDefEqProofs [hin] at hx
      subst hx
      simp -implicitDefEqProofs [hq]
    | some n =>
      rw [hn] at hq
      simp -implicitDefEqProofs [hn, allO, iD] at hin hq hx
      simp -implicitDefEqProofs [hin] at hx
      subst hx
      simp -implicitDefEqProofs [hq, qD]
  | some ab =>
    obtain ⟨a, b⟩ := ab
    have hq : qOf w = (natOf a).bind fun m => (natOf b).bind fun n => if 1 < n ∧ Nat.gcd m n = 1 then some (m, n) else none := by unfold qOf; rw [hp]
    cases hm : natOf a with
    | none =>
      have es : spl [47] 0 [] w = a :: spl [47] 0 [] b := by rw [spl_par, hp]
      rw [hm] at hq
      rw [es, List.map_cons, hm, allO] at hin
      rw [es, List.map_cons (f := natOf), hm] at hx
      simp -implicitDefEqProofs at hq hin hx
      simp -implicitDefEqProofs [hin] at hx
      subst hx
      simp -implicitDefEqProofs [hq]
    | some m =>
      obtain ⟨h1, h2⟩ := natOf_some hm
      by_cases hb : (47 : Nat) ∈ b
      · have hn : natOf b = none := natOf_bad hb rfl
        have e3 : ∃ y z l, spl [47] 0 [] b = y :: z :: l := by
          rw [spl_par]
          cases hp2 : par [47] [] b with
          | none => exact absurd hb (par_no' 47 hp2)
          | some yz =>
            obtain ⟨y, z⟩ := yz
            cases e4 : spl [47] 0 [] z with
            | nil => exact absurd e4 (spl_ne 47 z [])
            | cons u l => exact ⟨y, u, l, by simp only [e4]⟩
        obtain ⟨y, z, l, e3⟩ := e3
        have es : spl [47] 0 [] w = a :: y :: z :: l := by rw [spl_par, hp]; simp only [e3]
        rw [hm, hn] at hq
        rw [es] at hin hx
        have h3 : (2 : Int) < (l.length : Int) + 1 + 1 + 1 := by omega
        simp -implicitDefEqProofs at hq
        cases ho : allO ([a, y, z].map natOf ++ l.map natOf) with
        | none =>
          have ho' : allO ((a :: y :: z :: l).map natOf) = none := ho
          rw [ho'] at hin
          simp only [List.map_cons, List.map_map, Option.isNone] at hin
          simp -implicitDefEqProofs [hin] at hx
          subst hx
          simp -implicitDefEqProofs [hq]
        | some os =>
          have ho' : allO ((a :: y :: z :: l).map natOf) = some os := ho
          rw [ho'] at hin
          simp only [List.map_cons, List.map_map, Option.isNone] at hin
          simp -implicitDefEqProofs [hin, h3] at hx
          subst hx
          simp -implicitDefEqProofs [hq]
      · have es : spl [47] 0 [] w = [a, b] := by rw [spl_par, hp]; simp only [spl_last 47 b [] hb, List.nil_append]
        rw [es] at hin hx
        cases hn : natOf b with
        | none =>
          rw [hm, hn] at hq
          simp -implicitDefEqProofs [hm, hn, allO] at hin hq hx
          simp -implicitDefEqProofs [hin] at hx
          subst hx
          simp -implicitDefEqProofs [hq]
        | some n =>
          obtain ⟨h3, h4⟩ := natOf_some hn
          rw [hm, hn] at hq
          simp -implicitDefEqProofs [hm, hn, allO, iD] at hin hq hx
          have ed := s_divisor m n 200 (by omega) (by
            have := Nat.mul_le_mul (Nat.le_of_lt (lt30 h2)) (Nat.le_of_lt (lt30 h4))
            rw [← Nat.pow_add] at this
            simpa using this)
          simp only [Int.natAbs_natCast] at ed
          by_cases hc : 1 < n
          · have hc' : (1 : Int) < (n : Int) := by omega
            by_cases hg : Nat.gcd m n = 1
            · rw [if_pos ⟨hc, hg⟩] at hq
              simp -implicitDefEqProofs [hg] at ed
              simp -implicitDefEqProofs [hin, hc, hc', ed] at hx
              subst hx
              simp -implicitDefEqProofs [hq, qD]
            · rw [if_neg (fun z => hg z.2)] at hq
              have hg' : ¬ ((Nat.gcd m n : Nat) : Int) = 1 := by omega
              simp -implicitDefEqProofs [hin, hc, hc', ed, hg, hg'] at hx
              subst hx
              simp -implicitDefEqProofs [hq]
          · have hc' : ¬ (1 : Int) < (n : Int) := by omega
            rw [if_neg (fun z => hc z.1)] at hq
            simp -implicitDefEqProofs [hin, hc, hc'] at hx
            subst hx
            simp -implicitDefEqProofs [hq]
end Tw

set_option linter.all false
set_option maxRecDepth 100000
/-! T10: draws; a text bent. -/
namespace Tw
open Wp Lw
theorem take_is : D__law_take = Dtake 48271 613 69621 30323 19 5 := rfl
theorem tk (l : List D) (cs : List Cell) (many : Int) (hl : Pot l) (hm : 0 < many) (hm2 : many < 1000000) :
    ∃ (r : Nat) (l' : List D), F__law_take [.c 0, .v (.int many)] (⟨false, .lst l⟩ :: cs) = .ok (.int r) (⟨false, .lst l'⟩ :: cs) ∧ (r : Int) < many ∧ Pot l' := by
  obtain ⟨r, l', e, h1, h2, h3⟩ := s_take 48271 613 69621 30323 19 5 (by decide) (by decide) (by decide) (by decide) (⟨false, .lst l⟩ :: cs) 0 l many rfl hl hm (Nat.lt_of_lt_of_le (show many.natAbs < 2 ^ 20 by omega) (Nat.pow_le_pow_right (by omega) (by omega)))
  refine ⟨r.toNat, l', ?_, by omega, h3⟩
  rw [Int.toNat_of_nonneg h1]
  exact e
@[simp] theorem cut_lohi1 {α : Type} (xs : List α) (a : Nat) : cut xs (some (a : Int)) (some ((a : Int) + 1)) = (xs.drop a).take 1 := by
  have := cut_lohi xs a (a + 1)
  rw [show a + 1 - a = 1 by omega] at this
  exact this
theorem updL_n {xs : List D} {i : Nat} {v : D} (h : i < xs.length) : updL (.lst xs) (.int (i : Int)) v = some (.lst (xs.set i v)) := by
  unfold updL ixN
  simp only
  rw [if_pos (by omega), if_pos (by omega)]
  simp
theorem join_fact (c : Nat) {xs : List D} (ws : List Tx) (h : xs = ws.map D.str) (hl : tl ws ≤ 1000000) : P.f2 .join (.str [c]) (.lst xs) = some (.str (joinL [c] ws)) := by
  rw [h]; exact join_ok c ws (lt_SL hl)
def bentB : List S := match D__law_bent_lines.body with
  | [.for _ _ b, _] => b
  | _ => []
def SG : Tx := [48, 49, 32, 45, 47, 59, 44, 58, 124, 40, 41, 115, 105, 50, 57, 10, 46, 97, 116]
theorem bent_a (l : List D) (c1 : Cell) (hl : Pot l) (t : Tx) (ht : t.length ≤ 100000) (x2 x3 x4 x5 x6 x7 x8 x9 x10 : Option A) :
    ∃ (way spot c here there : Nat) (l' : List D) (y2 y9 y10 : Option A), exs 1 (bentB.take 3) [some (.c 0), some (.v (.str t)), x2, x3, x4, x5, x6, x7, x8, x9, x10] [⟨false, .lst l⟩, c1] =
      .nx [some (.c 0), some (.v (.str t)), y2, some (.v (.int way)), some (.v (.int spot)), some (.v (.str [c])), some (.c 1), some (.v (.int here)), some (.v (.int there)), y9, y10] [⟨false, .lst l'⟩, ⟨false, .lst ((spl [10] 0 [] t).map .str)⟩] ∧
      way < 9 ∧ spot ≤ t.length ∧ here < (spl [10] 0 [] t).length ∧ there < (spl [10] 0 [] t).length ∧ Pot l' := by
  have hS := lt_SL (show t.length ≤ 1000000 by omega)
  have hS2 : t.length + 2 ≤ SL := by rw [SL_eq]; omega
  have s19 : 19 ≤ SL := by rw [SL_eq]; omega
  have h0 := List.length_pos_iff.mpr (spl_ne 10 t [])
  have hls := tl_len (spl [10] 0 [] t)
  have htl := spl_len 10 t
  obtain ⟨way, l1, e1, b1, hl1⟩ := tk l [c1] 9 hl (by omega) (by omega)
  obtain ⟨spot, l2, e2, b2, hl2⟩ := tk l1 [c1] ((t.length : Int) + 1) hl1 (by omega) (by omega)
  obtain ⟨k, l3, e3, b3, hl3⟩ := tk l2 [c1] 19 hl2 (by omega) (by omega)
  obtain ⟨here, l4, e4, b4, hl4⟩ := tk l3 [⟨false, .lst ((spl [10] 0 [] t).map .str)⟩] ((spl [10] 0 [] t).length : Int) hl3 (by omega) (by omega)
  obtain ⟨there, l5, e5, b5, hl5⟩ := tk l4 [⟨false, .lst ((spl [10] 0 [] t).map .str)⟩] ((spl [10] 0 [] t).length : Int) hl4 (by omega) (by omega)
  have hk : k < ([48, 49, 32, 45, 47, 59, 44, 58, 124, 40, 41, 115, 105, 50, 57, 10, 46, 97, 116] : Tx).length := by simp; omega
  obtain ⟨c, ek⟩ : ∃ c, ([48, 49, 32, 45, 47, 59, 44, 58, 124, 40, 41, 115, 105, 50, 57, 10, 46, 97, 116] : Tx)[k]? = some c := ⟨_, List.getElem?_eq_getElem hk⟩
  refine ⟨way, spot, c, here, there, l5, unc 1 x2, unc 1 x9, unc 1 x10, ?_, by omega, by omega, by omega, by omega, hl5⟩
  generalize hx : exs _ _ _ _ = o
  simp -implicitDefEqProofs [bentB, D__law_bent_lines, hS, hS2, s19, low10, e1, e2, e3, ek, kill_any] at hx
  simp -implicitDefEqProofs [hS, hS2, s19, low10, e1, e2, e3, ek, kill_any, dr_c, e4, e5] at hx
  exact hx.symm
end Tw

set_option linter.all false
set_option maxRecDepth 100000
/-! T11: a text bent. -/
namespace Tw
open Wp Lw
theorem tl_set : ∀ (ws : List Tx) (i : Nat) (w : Tx), tl (ws.set i w) ≤ tl ws + w.length
  | [], i, w => by simp [tl]
  | x :: ws, 0, w => by rw [List.set_cons_zero, tl_cons, tl_cons]; omega
  | x :: ws, i + 1, w => by
    rw [List.set_cons_succ, tl_cons, tl_cons]
    have := tl_set ws i w
    omega
theorem tl_drop1 {ws : List Tx} {i : Nat} : tl ((ws.drop i).take 1) ≤ tl ws := Nat.le_trans (tl_take 1 _) (tl_drop i ws)
theorem bent_b (l : List D) (hl : Pot l) (t : Tx) (ht : t.length ≤ 100000) (way spot c here there : Nat) (hw : way < 9) (hs : spot ≤ t.length) (hh : here < (spl [10] 0 [] t).length) (hth : there < (spl [10] 0 [] t).length) (x2 x9 x10 : Option A) :
    ∃ (t' : Tx) (l' : List D) (c1' : Cell) (y3 y4 y5 y6 y7 y8 y9 y10 : Option A), exs 1 (bentB.drop 3) [some (.c 0), some (.v (.str t)), x2, some (.v (.int way)), some (.v (.int spot)), some (.v (.str [c])), some (.c 1), some (.v (.int here)), some (.v (.int there)), x9, x10] [⟨false, .lst l⟩, ⟨false, .lst ((spl [10] 0 [] t).map .str)⟩] =
      .nx [some (.c 0), some (.v (.str t')), x2, y3, y4, y5, y6, y7, y8, y9, y10] [⟨false, .lst l'⟩, c1'] ∧ t'.length ≤ 3 * t.length + 10 ∧ Bent t t' ∧ Pot l' := by
  have hS := lt_SL (show t.length ≤ 1000000 by omega)
  have hS2 : t.length + 2 ≤ SL := by rw [SL_eq]; omega
  have s2 : 2 ≤ SL := by rw [SL_eq]; omega
  have htl := spl_len 10 t
  have htn := tl_len (spl [10] 0 [] t)
  have hcase : (way = 0 ∨ way = 1) ∨ way = 2 ∨ way = 3 ∨ way = 4 ∨ way = 5 ∨ way = 6 ∨ way = 7 ∨ way = 8 := by omega
  rcases hcase with hw | rfl | rfl | rfl | rfl | rfl | rfl | rfl
  · have z1 : min spot t.length + 1 ≤ SL := by rw [SL_eq]; omega
    have z2 : min spot t.length + 1 + (t.length - spot) ≤ SL := by rw [SL_eq]; omega
    refine ⟨t.take spot ++ c :: t.drop spot, l, ⟨false, .lst ((spl [10] 0 [] t).map .str)⟩, some (.v (.int way)), some (.v (.int spot)), some (.v (.str [c])), some (.c 1), some (.v (.int here)), some (.v (.int there)), x9, x10, ?_, by simp; omega, .ins spot c, hl⟩
    rcases hw with rfl | rfl <;> simp -implicitDefEqProofs [bentB, D__law_bent_lines, hS, z1, z2]
  · have z1 : min spot t.length + (t.length - (spot + 1)) ≤ SL := by rw [SL_eq]; omega
    refine ⟨t.take spot ++ t.drop (spot + 1), l, ⟨false, .lst ((spl [10] 0 [] t).map .str)⟩, some (.v (.int 2)), some (.v (.int spot)), some (.v (.str [c])), some (.c 1), some (.v (.int here)), some (.v (.int there)), x9, x10, ?_, by simp; omega, .del spot, hl⟩
    simp -implicitDefEqProofs [bentB, D__law_bent_lines, hS, z1]
  · have z1 : min spot t.length + 1 ≤ SL := by rw [SL_eq]; omega
    have z2 : min spot t.length + 1 + (t.length - (spot + 1)) ≤ SL := by rw [SL_eq]; omega
    refine ⟨t.take spot ++ c :: t.drop (spot + 1), l, ⟨false, .lst ((spl [10] 0 [] t).map .str)⟩, some (.v (.int 3)), some (.v (.int spot)), some (.v (.str [c])), some (.c 1), some (.v (.int here)), some (.v (.int there)), x9, x10, ?_, by simp; omega, .chg spot c, hl⟩
    simp -implicitDefEqProofs [bentB, D__law_bent_lines, hS, z1, z2]
  · have h0 := List.length_pos_iff.mpr (spl_ne 32 t [])
    have hwl := spl_len 32 t
    have hwn := tl_len (spl [32] 0 [] t)
    obtain ⟨word, l1, e1, b1, hl1⟩ := tk l [⟨false, .lst ((spl [10] 0 [] t).map .str)⟩] ((spl [32] 0 [] t).length : Int) hl (by omega) (by omega)
    obtain ⟨k, l2, e2, b2, hl2⟩ := tk l1 [⟨false, .lst ((spl [10] 0 [] t).map .str)⟩] 2 hl1 (by omega) (by omega)
    generalize hws : spl [32] 0 [] t = ws at *
    have hk : k = 0 ∨ k = 1 := by omega
    have t1 := tl_take word ws
    have t2 := tl_drop (word + 1) ws
    have t3 := tl_drop1 (ws := ws) (i := word)
    have t4 := tl_drop word ws
    have t5 := tl_split word ws
    rcases hk with rfl | rfl
    · have hj := join_fact 32 (xs := (ws.map D.str).take word ++ (ws.map D.str).drop (word + 1)) (ws.take word ++ ws.drop (word + 1)) (by simp) (by rw [tl_app]; omega)
      have hjl := join_len 32 (ws.take word ++ ws.drop (word + 1))
      rw [tl_app] at hjl
      have z1 : min word ws.length + (ws.length - (word + 1)) ≤ SL := by rw [SL_eq]; omega
      refine ⟨joinL [32] (ws.take word ++ ws.drop (word + 1)), l2, ⟨false, .lst ((spl [10] 0 [] t).map .str)⟩, some (.v (.int 4)), some (.v (.int spot)), some (.v (.str [c])), some (.c 1), some (.v (.int here)), some (.v (.int there)), some (.v (.lst (ws.map .str))), some (.v (.int word)), ?_, by omega, hws ▸ .wdel word, hl2⟩
      simp -implicitDefEqProofs [bentB, D__law_bent_lines, hS, hS2, low32, hws, e1, e2, z1, hj, -f_join]
    · have hj := join_fact 32 (xs := (ws.map D.str).take word ++ (((ws.map D.str).drop word).take 1 ++ (ws.map D.str).drop word)) (ws.take word ++ ((ws.drop word).take 1 ++ ws.drop word)) (by simp) (by rw [tl_app, tl_app]; omega)
      have hjl := join_len 32 (ws.take word ++ ((ws.drop word).take 1 ++ ws.drop word))
      rw [tl_app, tl_app] at hjl
      have z1 : min word ws.length + min 1 (ws.length - word) ≤ SL := by rw [SL_eq]; omega
      have z2 : min word ws.length + min 1 (ws.length - word) + (ws.length - word) ≤ SL := by rw [SL_eq]; omega
      have z3 : min word ws.length + (min 1 (ws.length - word) + (ws.length - word)) ≤ SL := by rw [SL_eq]; omega
      refine ⟨joinL [32] (ws.take word ++ ((ws.drop word).take 1 ++ ws.drop word)), l2, ⟨false, .lst ((spl [10] 0 [] t).map .str)⟩, some (.v (.int 4)), some (.v (.int spot)), some (.v (.str [c])), some (.c 1), some (.v (.int here)), some (.v (.int there)), some (.v (.lst (ws.map .str))), some (.v (.int word)), ?_, by omega, hws ▸ .wdup word, hl2⟩
      simp -implicitDefEqProofs [bentB, D__law_bent_lines, hS, hS2, low32, hws, e1, e2, z1, z2, z3, hj, -f_join]
  · generalize hls : spl [10] 0 [] t = ls at *
    have u1 := updL_n (xs := ls.map D.str) (i := here) (v := .str ls[there]) (by simpa using hh)
    have u2 := updL_n (xs := (ls.map D.str).set here (.str ls[there])) (i := there) (v := .str ls[here]) (by simpa using hth)
    have g1 : (ls.map D.str)[here]? = some (.str ls[here]) := by simp [hh]
    have g2 : (ls.map D.str)[there]? = some (.str ls[there]) := by simp [hth]
    have q1 : ls[here]? = some ls[here] := by simp [hh]
    have q2 : ls[there]? = some ls[there] := by simp [hth]
    have m1 := tl_mem (List.getElem_mem hh)
    have m2 := tl_mem (List.getElem_mem hth)
    have t1 := tl_set ls here ls[there]
    have t2 := tl_set (ls.set here ls[there]) there ls[here]
    have hj := join_fact 10 (xs := ((ls.map D.str).set here (.str ls[there])).set there (.str ls[here])) ((ls.set here ls[there]).set there ls[here]) (by simp) (by omega)
    have hjl := join_len 10 ((ls.set here ls[there]).set there ls[here])
    generalize ls[there] = wt at *
    generalize ls[here] = wh at *
    refine ⟨joinL [10] ((ls.set here wt).set there wh), l, ⟨false, .lst (((ls.map D.str).set here (.str wt)).set there (.str wh))⟩, some (.v (.int 5)), some (.v (.int spot)), some (.v (.str [c])), some (.c 1), some (.v (.int here)), some (.v (.int there)), x9, x10, ?_, by omega, hls ▸ .swap here there wt wh (hls ▸ q1) (hls ▸ q2), hl⟩
    simp -implicitDefEqProofs [bentB, D__law_bent_lines, hS, dr_c, g1, g2, q1, q2, u1, u2, hj, -f_join]
  · generalize hls : spl [10] 0 [] t = ls at *
    have t1 := tl_take here ls
    have t2 := tl_drop (here + 1) ls
    have hj := join_fact 10 (xs := (ls.map D.str).take here ++ (ls.map D.str).drop (here + 1)) (ls.take here ++ ls.drop (here + 1)) (by simp) (by rw [tl_app]; omega)
    have hjl := join_len 10 (ls.take here ++ ls.drop (here + 1))
    rw [tl_app] at hjl
    have z1 : min here ls.length ≤ SL := by rw [SL_eq]; omega
    have z1' : here ≤ SL := by rw [SL_eq]; omega
    have z2 : min here ls.length + (ls.length - (here + 1)) ≤ SL := by rw [SL_eq]; omega
    refine ⟨joinL [10] (ls.take here ++ ls.drop (here + 1)), l, ⟨false, .lst (ls.map D.str)⟩, some (.v (.int 6)), some (.v (.int spot)), some (.v (.str [c])), some (.c 1), some (.v (.int here)), some (.v (.int there)), x9, x10, ?_, by omega, hls ▸ .ldel here, hl⟩
    simp -implicitDefEqProofs [bentB, D__law_bent_lines, hS, dr_c, z1, z1', z2, hj, -f_join]
  · generalize hls : spl [10] 0 [] t = ls at *
    have t1 := tl_take here ls
    have t2 := tl_drop (here + 1) ls
    have t3 := tl_drop1 (ws := ls) (i := here)
    have t5 := tl_split here ls
    have t6 := tl_split 1 (ls.drop here)
    rw [List.drop_drop] at t6
    have hj := join_fact 10 (xs := (ls.map D.str).take here ++ (((ls.map D.str).drop here).take 1 ++ (((ls.map D.str).drop here).take 1 ++ (ls.map D.str).drop (here + 1)))) (ls.take here ++ ((ls.drop here).take 1 ++ ((ls.drop here).take 1 ++ ls.drop (here + 1)))) (by simp) (by rw [tl_app, tl_app, tl_app]; omega)
    have hjl := join_len 10 (ls.take here ++ ((ls.drop here).take 1 ++ ((ls.drop here).take 1 ++ ls.drop (here + 1))))
    rw [tl_app, tl_app, tl_app] at hjl
    have hm : P.f2 .mul (.lst (((ls.map D.str).drop here).take 1)) (.int 2) = some (.lst (((ls.map D.str).drop here).take 1 ++ ((ls.map D.str).drop here).take 1)) := by
      rw [f_mul_l, if_pos]
      · simp [rep]
      · refine ⟨by decide, ?_⟩
        have : (((ls.map D.str).drop here).take 1).length ≤ 1 := by simp; omega
        rw [SL_eq, show (2 : Int).toNat = 2 from rfl]; omega
    have z1 : min here ls.length + (min 1 (ls.length - here) + min 1 (ls.length - here)) ≤ SL := by rw [SL_eq]; omega
    have z2 : min here ls.length + (min 1 (ls.length - here) + min 1 (ls.length - here)) + (ls.length - (here + 1)) ≤ SL := by rw [SL_eq]; omega
    have z3 : min here ls.length + (min 1 (ls.length - here) + (min 1 (ls.length - here) + (ls.length - (here + 1)))) ≤ SL := by rw [SL_eq]; omega
    refine ⟨joinL [10] (ls.take here ++ ((ls.drop here).take 1 ++ ((ls.drop here).take 1 ++ ls.drop (here + 1)))), l, ⟨false, .lst (ls.map D.str)⟩, some (.v (.int 7)), some (.v (.int spot)), some (.v (.str [c])), some (.c 1), some (.v (.int here)), some (.v (.int there)), x9, x10, ?_, by omega, hls ▸ .ldup here, hl⟩
    simp -implicitDefEqProofs [bentB, D__law_bent_lines, hS, dr_c, z1, z2, z3, hm, hj, -f_join, -f_mul_l]
  · obtain ⟨k, l1, e1, b1, hl1⟩ := tk l [⟨false, .lst ((spl [10] 0 [] t).map .str)⟩] 4 hl (by omega) (by omega)
    have a3 : ∀ (a b c d : D), atI [a, b, c, d] 3 = some d := fun a b c d => atN [a, b, c, d] 3
    have z1 : t.length + 1 ≤ SL := by rw [SL_eq]; omega
    have hk : k = 0 ∨ k = 1 ∨ k = 2 ∨ k = 3 := by omega
    rcases hk with rfl | rfl | rfl | rfl
    · refine ⟨t ++ [10], l1, ⟨false, .lst ((spl [10] 0 [] t).map .str)⟩, some (.v (.int 8)), some (.v (.int spot)), some (.v (.str [c])), some (.c 1), some (.v (.int here)), some (.v (.int there)), x9, x10, ?_, by simp; omega, .app _ (.inl rfl), hl1⟩
      simp -implicitDefEqProofs [bentB, D__law_bent_lines, hS, e1, z1]
    · refine ⟨t ++ [32], l1, ⟨false, .lst ((spl [10] 0 [] t).map .str)⟩, some (.v (.int 8)), some (.v (.int spot)), some (.v (.str [c])), some (.c 1), some (.v (.int here)), some (.v (.int there)), x9, x10, ?_, by simp; omega, .app _ (.inr (.inl rfl)), hl1⟩
      simp -implicitDefEqProofs [bentB, D__law_bent_lines, hS, e1, z1]
    · refine ⟨t ++ [10, 48], l1, ⟨false, .lst ((spl [10] 0 [] t).map .str)⟩, some (.v (.int 8)), some (.v (.int spot)), some (.v (.str [c])), some (.c 1), some (.v (.int here)), some (.v (.int there)), x9, x10, ?_, by simp; omega, .app _ (.inr (.inr (.inl rfl))), hl1⟩
      simp -implicitDefEqProofs [bentB, D__law_bent_lines, hS, e1, hS2]
    · refine ⟨t ++ [10, 45], l1, ⟨false, .lst ((spl [10] 0 [] t).map .str)⟩, some (.v (.int 8)), some (.v (.int spot)), some (.v (.str [c])), some (.c 1), some (.v (.int here)), some (.v (.int there)), x9, x10, ?_, by simp; omega, .app _ (.inr (.inr (.inr rfl))), hl1⟩
      simp -implicitDefEqProofs [bentB, D__law_bent_lines, hS, e1, hS2, a3]
end Tw

set_option linter.all false
set_option maxRecDepth 100000
/-! T12: a text bent, wholly; numbers drawn. -/
namespace Tw
open Wp Lw
theorem bent_turn (l : List D) (c1 : Cell) (hl : Pot l) (t : Tx) (ht : t.length ≤ 100000) (x2 x3 x4 x5 x6 x7 x8 x9 x10 : Option A) :
    ∃ (t' : Tx) (l' : List D) (c1' : Cell) (y2 y3 y4 y5 y6 y7 y8 y9 y10 : Option A), exs 1 bentB [some (.c 0), some (.v (.str t)), x2, x3, x4, x5, x6, x7, x8, x9, x10] [⟨false, .lst l⟩, c1] =
      .nx [some (.c 0), some (.v (.str t')), y2, y3, y4, y5, y6, y7, y8, y9, y10] [⟨false, .lst l'⟩, c1'] ∧ t'.length ≤ 3 * t.length + 10 ∧ Bent t t' ∧ Pot l' := by
  obtain ⟨way, spot, c, here, there, l1, y2, y9, y10, e1, h1, h2, h3, h4, hl1⟩ := bent_a l c1 hl t ht x2 x3 x4 x5 x6 x7 x8 x9 x10
  obtain ⟨t', l2, c2, z3, z4, z5, z6, z7, z8, z9, z10, e2, h5, h6, hl2⟩ := bent_b l1 hl1 t ht way spot c here there h1 h2 h3 h4 y2 y9 y10
  refine ⟨t', l2, c2, y2, z3, z4, z5, z6, z7, z8, z9, z10, ?_, h5, h6, hl2⟩
  have e : bentB = bentB.take 3 ++ bentB.drop 3 := (List.take_append_drop 3 _).symm
  rw [e, exs_app, e1, o_nx, e2]
theorem D_bent : D__law_bent_lines = ⟨11, 1, [(.for (.n 2) (.rng [(.prim .idx [(.lst [(.k (.int 0)), (.k (.int 1)), (.k (.int 1)), (.k (.int 1)), (.k (.int 2))]), (.call "_law_take" F__law_take [(.var 0), (.k (.int 5))])])]) bentB), (.ret (.var 1))]⟩ := rfl
theorem s_bent (l : List D) (hl : Pot l) (t : Tx) (ht : t.length ≤ 10000) (k0 : Nat) (hc : t.count 32 ≤ k0) :
    ∃ (t' : Tx) (l' : List D), F__law_bent_lines [.c 0, .v (.str t)] [⟨false, .lst l⟩] = .ok (.str t') [⟨false, .lst l'⟩] ∧ t'.length ≤ 100000 ∧ (fstL t').count 32 ≤ 2 * k0 + 2 ∧ Pot l' := by
  obtain ⟨k, l1, e1, b1, hl1⟩ := tk l [⟨false, .dead⟩] 5 hl (by omega) (by omega)
  have a3 : ∀ (a b c d e : D), atI [a, b, c, d, e] 3 = some d := fun a b c d e => atN [a, b, c, d, e] 3
  have a4 : ∀ (a b c d e : D), atI [a, b, c, d, e] 4 = some e := fun a b c d e => atN [a, b, c, d, e] 4
  obtain ⟨n, hn, ha⟩ : ∃ n : Nat, n ≤ 2 ∧ atI [D.int 0, D.int 1, D.int 1, D.int 1, D.int 2] ((k : Nat) : Int) = some (.int (n : Int)) := by
    have hk : k = 0 ∨ k = 1 ∨ k = 2 ∨ k = 3 ∨ k = 4 := by omega
    rcases hk with rfl | rfl | rfl | rfl | rfl
    · exact ⟨0, by omega, rfl⟩
    · exact ⟨1, by omega, rfl⟩
    · exact ⟨1, by omega, rfl⟩
    · exact ⟨1, by omega, rfl⟩
    · exact ⟨2, by omega, rfl⟩
  rw [atN] at ha
  have hr := rngOf_nat n (by omega)
  suffices h : ∃ (t' : Tx) (l' : List D), fin 1 (exs 1 D__law_bent_lines.body [some (.c 0), some (.v (.str t)), none, none, none, none, none, none, none, none, none] [⟨false, .lst l⟩, ⟨false, .dead⟩]) = .ok (.str t') [⟨false, .lst l'⟩] ∧ t'.length ≤ 100000 ∧ (fstL t').count 32 ≤ 2 * k0 + 2 ∧ Pot l' by
    obtain ⟨t', l', e, h⟩ := h
    exact ⟨t', l', run_of e, h⟩
  generalize hx : exs _ _ _ _ = o
  rw [D_bent] at hx
  simp -implicitDefEqProofs [e1, ha, hr] at hx
  generalize hf : forGo _ _ _ _ _ = o2 at hx
  obtain ⟨ρ', μ', rfl, hI⟩ := for_o hf (fun k ρ μ' => ∃ (t' : Tx) (l' : List D) (c1' : Cell) (y2 y3 y4 y5 y6 y7 y8 y9 y10 : Option A), ρ = [some (.c 0), some (.v (.str t')), y2, y3, y4, y5, y6, y7, y8, y9, y10] ∧ μ' = [⟨false, .lst l'⟩, c1'] ∧ (k = 0 ∧ t'.length ≤ 10000 ∧ t'.count 32 ≤ k0 ∨ k = 1 ∧ t'.length ≤ 30010 ∧ t'.count 32 ≤ 2 * k0 + 1 ∨ k = 2 ∧ t'.length ≤ 100000) ∧ (fstL t').count 32 ≤ 2 * k0 + 2 ∧ Pot l')
    ⟨t, l1, ⟨false, .dead⟩, _, _, _, _, _, _, _, _, _, rfl, rfl, .inl ⟨rfl, ht, hc⟩, by have := fstL_cnt 32 t; omega, hl1⟩ (by
    rintro i x hx ρ μ' ⟨u, l', c1', y2, y3, y4, y5, y6, y7, y8, y9, y10, rfl, rfl, hk, hf1, hl'⟩
    obtain ⟨hi, rfl⟩ := rngL_at hx
    have hu : i = 0 ∧ u.length ≤ 10000 ∧ u.count 32 ≤ k0 ∨ i = 1 ∧ u.length ≤ 30010 ∧ u.count 32 ≤ 2 * k0 + 1 ∨ i = 2 ∧ u.length ≤ 100000 := hk
    have hu2 : i = 0 ∧ u.length ≤ 10000 ∧ u.count 32 ≤ k0 ∨ i = 1 ∧ u.length ≤ 30010 ∧ u.count 32 ≤ 2 * k0 + 1 := by
      omega
    obtain ⟨t', l2, c2, z2, z3, z4, z5, z6, z7, z8, z9, z10, e, h5, h6, hl2⟩ := bent_turn l' c1' hl' u (by omega) (some (.v (.int (0 + (i : Nat))))) y3 y4 y5 y6 y7 y8 y9 y10
    have hb := bent_cnt h6
    exact ⟨_, by simp -implicitDefEqProofs; (first | done | rfl | exact ⟨rfl, rfl⟩), _, _, .inl e, t', l2, c2, z2, z3, z4, z5, z6, z7, z8, z9, z10, rfl, rfl, by omega, by omega, hl2⟩)
  obtain ⟨t', l', c1', y2, y3, y4, y5, y6, y7, y8, y9, y10, rfl, rfl, hk, hf1, hl'⟩ := hI
  simp -implicitDefEqProofs at hx
  subst hx
  rw [rngL_len] at hk
  exact ⟨t', l', rfl, by omega, hf1, hl'⟩
/- numbers drawn -/
theorem s_big (l : List D) (hl : Pot l) (cs : List Cell) : ∃ (n : Nat) (l' : List D), F__law_big [.c 0] (⟨false, .lst l⟩ :: cs) = .ok (.int n) (⟨false, .lst l'⟩ :: cs) ∧ n < 10 ^ 30 ∧ Pot l' := by
  have hlen : ∀ l, (⟨false, .lst l⟩ :: cs : Mu).take (cs.length + 1) = ⟨false, .lst l⟩ :: cs := fun l => List.take_of_length_le (by simp)
  obtain ⟨k, l1, e1, b1, hl1⟩ := tk l cs 5 hl (by omega) (by omega)
  obtain ⟨s, hs, hs1, ha⟩ : ∃ n : Nat, n ≤ 30 ∧ 1 ≤ n ∧ ([D.int 1, D.int 1, D.int 2, D.int 9, D.int 30])[k]? = some (.int (n : Int)) := by
    have hk : k = 0 ∨ k = 1 ∨ k = 2 ∨ k = 3 ∨ k = 4 := by omega
    rcases hk with rfl | rfl | rfl | rfl | rfl
    · exact ⟨1, by omega, by omega, rfl⟩
    · exact ⟨1, by omega, by omega, rfl⟩
    · exact ⟨2, by omega, by omega, rfl⟩
    · exact ⟨9, by omega, by omega, rfl⟩
    · exact ⟨30, by omega, by omega, rfl⟩
  obtain ⟨m, l2, e2, b2, hl2⟩ := tk l1 cs (s : Int) hl1 (by omega) (by omega)
  have hr : rngOf [.int (1 + (m : Int))] = some (rngL 0 (1 + m)) := by
    have := rngOf_nat (1 + m) (by omega)
    rwa [show ((1 + m : Nat) : Int) = 1 + (m : Int) by omega] at this
  suffices h : ∃ (n : Nat) (l' : List D), fin (cs.length + 1) (exs (cs.length + 1) D__law_big.body [some (.c 0), none, none, none] (⟨false, .lst l⟩ :: cs)) = .ok (.int n) (⟨false, .lst l'⟩ :: cs) ∧ n < 10 ^ 30 ∧ Pot l' by
    obtain ⟨t', l', e, h⟩ := h
    refine ⟨t', l', run_of ?_, h⟩
    have z : (⟨false, .lst l⟩ :: cs : Mu) ++ List.replicate D__law_big.cells ⟨false, .dead⟩ = ⟨false, .lst l⟩ :: cs := List.append_nil _
    rw [z]
    exact e
  generalize hx : exs _ _ _ _ = o
  simp -implicitDefEqProofs [D__law_big, e1, ha, e2, hr] at hx
  generalize hf : forGo _ _ _ _ _ = o2 at hx
  obtain ⟨ρ', μ', rfl, hI⟩ := for_o hf (fun k ρ μ' => ∃ (n : Nat) (l' : List D) (y3 : Option A), ρ = [some (.c 0), some (.v (.int s)), some (.v (.int n)), y3] ∧ μ' = ⟨false, .lst l'⟩ :: cs ∧ n < 10 ^ k ∧ Pot l')
    ⟨0, l2, _, rfl, rfl, by decide, hl2⟩ (by
    rintro i x hx ρ μ' ⟨n, l', y3, rfl, rfl, hn, hl'⟩
    obtain ⟨hi, rfl⟩ := rngL_at hx
    obtain ⟨d, l3, e3, b3, hl3⟩ := tk l' cs 10 hl' (by omega) (by omega)
    have hi2 : (10 : Nat) ^ i ≤ 10 ^ 30 := Nat.pow_le_pow_right (by omega) (by omega)
    have hm : mulOk 10 (n : Int) = true := mulOk_of 100 100 (by decide) (by
      have h30 : (10 : Nat) ^ 30 < 2 ^ 100 := by decide
      rw [Int.natAbs_natCast]; omega) (by omega) (by omega) (by omega)
    refine ⟨_, by simp -implicitDefEqProofs; rfl, _, _, .inl (by simp -implicitDefEqProofs [hm, e3]; (first | done | rfl | exact ⟨rfl, rfl⟩)), 10 * n + d, l3, some (.v (.int (0 + (i : Nat)))), by simp, rfl, ?_, hl3⟩
    rw [Nat.pow_succ]; omega)
  obtain ⟨n, l', y3, rfl, rfl, hn, hl'⟩ := hI
  rw [rngL_len] at hn
  have hi2 : (10 : Nat) ^ (1 + m) ≤ 10 ^ 30 := Nat.pow_le_pow_right (by omega) (by omega)
  simp -implicitDefEqProofs at hx
  subst hx
  refine ⟨n, l', ?_, by omega, hl'⟩
  simp -implicitDefEqProofs [hlen]
theorem s_low_nat (m n : Nat) (hm : m < 10 ^ 30) (hn : n < 10 ^ 30) (h0 : 0 < n) (μ : Mu) : F__law_low [.v (.int m), .v (.int n)] μ = .ok (.tup [.int ((m / Nat.gcd m n : Nat) : Int), .int ((n / Nat.gcd m n : Nat) : Int)]) μ := by
  have g0 : Nat.gcd m n ≠ 0 := fun h => by have := Nat.eq_zero_of_gcd_eq_zero_right h; omega
  have gl : Nat.gcd m n < 2 ^ 9000 := lt9000 (Nat.lt_of_le_of_lt (Nat.gcd_le_right m h0) hn)
  have dk : divOk ((Nat.gcd m n : Nat) : Int) = true := divOk_of (by omega) (by simpa using gl)
  have f1 := n_fdiv m (Nat.gcd m n)
  have f2 := n_fdiv n (Nat.gcd m n)
  have ed := s_divisor m n 200 (by omega) (by
    have := Nat.mul_le_mul (Nat.le_of_lt (lt30 hm)) (Nat.le_of_lt (lt30 hn))
    rw [← Nat.pow_add] at this
    simpa using this)
  simp only [Int.natAbs_natCast] at ed
  have h0i : (0 : Int) < (n : Int) := by omega
  refine run_of ?_
  simp -implicitDefEqProofs [D__law_low, h0, h0i, ed, dk, f1, f2]
/-- a number that the texts have -/
def BdN (x : Nat × Nat) : Prop := x.1 < 10 ^ 30 ∧ x.2 < 10 ^ 30 ∧ 0 < x.2 ∧ Nat.gcd x.1 x.2 = 1
theorem bdN_of {m n : Nat} (hm : m < 10 ^ 30) (hn : n < 10 ^ 30) (h0 : 0 < n) : BdN (m / Nat.gcd m n, n / Nat.gcd m n) := by
  have g0 : 0 < Nat.gcd m n := Nat.gcd_pos_of_pos_right m h0
  refine ⟨Nat.lt_of_le_of_lt (Nat.div_le_self _ _) hm, Nat.lt_of_le_of_lt (Nat.div_le_self _ _) hn, Nat.div_pos (Nat.gcd_le_right m h0) g0, ?_⟩
  exact Nat.gcd_div_gcd_div_gcd_of_pos_right h0
theorem s_big_number (l : List D) (hl : Pot l) (cs : List Cell) : ∃ (x : Nat × Nat) (l' : List D), F__law_big_number [.c 0] (⟨false, .lst l⟩ :: cs) = .ok (qD x) (⟨false, .lst l'⟩ :: cs) ∧ BdN x ∧ Pot l' := by
  have hlen : ∀ l, (⟨false, .lst l⟩ :: cs : Mu).take (cs.length + 1) = ⟨false, .lst l⟩ :: cs := fun l => List.take_of_length_le (by simp)
  obtain ⟨k, l1, e1, b1, hl1⟩ := tk l cs 3 hl (by omega) (by omega)
  by_cases h : 0 < k
  · have h' : (0 : Int) < (k : Int) := by omega
    obtain ⟨m, l2, e2, b2, hl2⟩ := s_big l1 hl1 cs
    obtain ⟨n, l3, e3, b3, hl3⟩ := s_big l2 hl2 cs
    have b4 : max 1 n < 10 ^ 30 := by
      have : (1 : Nat) < 10 ^ 30 := by decide
      omega
    have e4 := s_low_nat m (max 1 n) b2 b4 (by omega)
    have em : (if (1 : Int) < (n : Int) then (n : Int) else 1) = ((max 1 n : Nat) : Int) := by omega
    have ed : (D.int (if (1 : Int) < (n : Int) then (n : Int) else 1)) = .int ((max 1 n : Nat) : Int) := by rw [em]
    refine ⟨(m / Nat.gcd m (max 1 n), max 1 n / Nat.gcd m (max 1 n)), l3, run_of ?_, bdN_of b2 b4 (by omega), hl3⟩
    generalize max 1 n = n' at *
    simp -implicitDefEqProofs [D__law_big_number, e1, h, h', e2, e3]
    simp only [em, e4]
    simp -implicitDefEqProofs [hlen, qD]
  · have h' : ¬ (0 : Int) < (k : Int) := by omega
    obtain ⟨m, l2, e2, b2, hl2⟩ := tk l1 cs 12 hl1 (by omega) (by omega)
    have h12 : (12 : Nat) < 10 ^ 30 := by decide
    have h1 : (1 : Nat) < 10 ^ 30 := by decide
    refine ⟨(m, 1), l2, run_of ?_, ⟨by show m < 10 ^ 30; omega, h1, by show 0 < 1; omega, by simp⟩, hl2⟩
    simp -implicitDefEqProofs [D__law_big_number, e1, h, h', e2, hlen, qD]
end Tw

set_option linter.all false
set_option maxRecDepth 100000
/-! T13: lists drawn. -/
namespace Tw
open Wp Lw
theorem lcGo_st {tg : D → Env → Option Env} {el : Env → Mu → Res D} {n : Nat} {ρ : Env} (J : List D → Mu → Prop) (hJn : ∀ ds M, J ds M → M.length = n) : ∀ (xs : List D) (ds : List D) (M : Mu), J ds M → ds.length + xs.length ≤ SL →
    (∀ x ∈ xs, ∀ ds M, J ds M → ∃ ρ' d M', tg x ρ = some ρ' ∧ el ρ' (M ++ [⟨false, .lst ds⟩]) = .ok d (M' ++ [⟨false, .lst ds⟩]) ∧ J (ds ++ [d]) M') →
    ∃ ds' M', lcGo tg (evC []) el n ρ xs (M ++ [⟨false, .lst ds⟩]) = .ok () (M' ++ [⟨false, .lst ds'⟩]) ∧ J ds' M' ∧ ds'.length = ds.length + xs.length
  | [], ds, M, hJ, hl, hs => ⟨ds, M, by rw [lcGo], hJ, by simp⟩
  | x :: xs, ds, M, hJ, hl, hs => by
    obtain ⟨ρ', d, M', e1, e2, hJ'⟩ := hs x List.mem_cons_self ds M hJ
    rw [List.length_cons] at hl
    obtain ⟨ds', M2, e3, hJ2, hl2⟩ := lcGo_st J hJn xs (ds ++ [d]) M' hJ' (by rw [List.length_append, List.length_singleton]; omega) fun y hy => hs y (List.mem_cons_of_mem _ hy)
    refine ⟨ds', M2, ?_, hJ2, by rw [hl2, List.length_append, List.length_singleton, List.length_cons]; omega⟩
    have hM' := hJn _ _ hJ'
    rw [lcGo, e1]
    have h1 : (M' ++ [⟨false, C.lst ds⟩] : Mu)[n]? = some ⟨false, .lst ds⟩ := by rw [← hM']; exact app_get
    have h2 : (M' ++ [⟨false, C.lst ds⟩] : Mu).set n ⟨false, .lst (ds ++ [d])⟩ = M' ++ [⟨false, .lst (ds ++ [d])⟩] := by rw [← hM']; exact app_set
    have h3 : ds.length < SL := by omega
    simp only [ec_nil, r_bind_ok, e2, h1, h2, h3, if_true]
    exact e3
theorem ev_st {g : I} {t : T} {e : E} {own : List Nat} {ρ : Env} {μ M0 : Mu} {xs : List D} (J : List D → Mu → Prop) (hJn : ∀ ds M, J ds M → M.length = M0.length) (h0 : J [] M0) (hg : evI g ρ μ = .ok xs M0) (hl : xs.length ≤ SL)
    (hs : ∀ x ∈ xs, ∀ ds M, J ds M → ∃ ρ' d M', asg t x (wipeE ρ own) = some ρ' ∧ (ev e ρ' (M ++ [⟨false, .lst ds⟩])).bind toV = .ok d (M' ++ [⟨false, .lst ds⟩]) ∧ J (ds ++ [d]) M') :
    ∃ ds M', ev (.lc g t [] e own) ρ μ = .ok (.v (.lst ds)) M' ∧ J ds M' ∧ ds.length = xs.length := by
  obtain ⟨ds, M', h, hJ, hlen⟩ := lcGo_st (tg := asg t) (el := fun ρ μ => (ev e ρ μ).bind toV) (n := M0.length) (ρ := wipeE ρ own) J hJn xs [] M0 h0 (by simpa using hl) hs
  refine ⟨ds, M', ?_, hJ, by simpa using hlen⟩
  rw [ev, hg, bind_ok, h]
  show (Res.bind (Res.ok () _) _) = _
  rw [bind_ok]
  unfold lcEnd
  rw [← hJn _ _ hJ, app_get]
  simp
theorem rng_SL {n : Nat} (h : n ≤ 1000000) : (rngL 0 n).length ≤ SL := by rw [rngL_len]; exact lt_SL h
/-- a comprehension whose parts draw from the pot -/
theorem lc_draw (P : D → Prop) (i j n : Nat) (e : E) (ρ : Env) (hj : j < ρ.length) (hi : ρ[i]? = some (some (.v (.int (n : Int))))) (hn : n ≤ 1000000) (l : List D) (cs : List Cell) (hl : Pot l)
    (hE : ∀ x l cs, Pot l → ∃ d l', (ev e (ρ.set j (some (.v x))) (⟨false, .lst l⟩ :: cs)).bind toV = .ok d (⟨false, .lst l'⟩ :: cs) ∧ P d ∧ Pot l') :
    ∃ ds l', ev (.lc (.rng [.var i]) (.n j) [] e [j]) ρ (⟨false, .lst l⟩ :: cs) = .ok (.v (.lst ds)) (⟨false, .lst l'⟩ :: cs) ∧ (∀ d ∈ ds, P d) ∧ ds.length = n ∧ Pot l' := by
  have hg : evI (.rng [.var i]) ρ (⟨false, .lst l⟩ :: cs) = .ok (rngL 0 n) (⟨false, .lst l⟩ :: cs) := by
    simp -implicitDefEqProofs [hi, rngOf_nat n hn]
  obtain ⟨ds, M', e1, ⟨h1, l', rfl, h2⟩, h4⟩ := ev_st (t := .n j) (e := e) (own := [j]) (fun ds M => (∀ d ∈ ds, P d) ∧ ∃ l', M = ⟨false, .lst l'⟩ :: cs ∧ Pot l') (by
    rintro ds M ⟨_, l', rfl, _⟩
    rw [List.length_cons, List.length_cons]) ⟨fun d hd => absurd hd List.not_mem_nil, l, rfl, hl⟩ hg (rng_SL hn) (by
    rintro x hx ds M ⟨h1, l', rfl, h2⟩
    obtain ⟨d, l2, e1, hp, hl2⟩ := hE x l' (cs ++ [⟨false, .lst ds⟩]) h2
    refine ⟨ρ.set j (some (.v x)), d, ⟨false, .lst l2⟩ :: cs, ?_, e1, ?_, l2, rfl, hl2⟩
    · simp -implicitDefEqProofs [hj]
    · intro y hy
      rw [List.mem_append, List.mem_singleton] at hy
      rcases hy with hy | rfl
      · exact h1 y hy
      · exact hp)
  exact ⟨ds, l', e1, h1, by rw [h4, rngL_len], h2⟩
theorem map_of {α : Type} {f : α → D} {Q : α → Prop} : ∀ {ds : List D}, (∀ d ∈ ds, ∃ a, d = f a ∧ Q a) → ∃ as : List α, ds = as.map f ∧ (∀ a ∈ as, Q a) ∧ as.length = ds.length
  | [], _ => ⟨[], rfl, by simp, rfl⟩
  | d :: ds, h => by
    obtain ⟨a, rfl, ha⟩ := h d List.mem_cons_self
    obtain ⟨as, rfl, has, hl⟩ := map_of (ds := ds) fun d hd => h d (List.mem_cons_of_mem _ hd)
    refine ⟨a :: as, rfl, fun b hb => ?_, by simp⟩
    rcases List.mem_cons.mp hb with rfl | hb
    · exact ha
    · exact has b hb
end Tw

set_option linter.all false
set_option maxRecDepth 100000
/-! V1: shares. -/
namespace Tw
open Wp Lw
def fW (g : Tx → D) : D → D
  | .str t => g t
  | _ => .non
theorem fW_map (g : Tx → D) (ws : List Tx) : (ws.map D.str).map (fW g) = ws.map g := by simp [fW]
theorem spl_SL {c : Nat} {w : Tx} (h : w.length ≤ 1000000) : ((spl [c] 0 [] w).map D.str).length ≤ SL := by
  have := spl_len c w
  have := tl_len (spl [c] 0 [] w)
  rw [List.length_map, SL_eq]; omega
theorem spl_mil {c : Nat} {w : Tx} (h : w.length ≤ 900000) : (spl [c] 0 [] w).length ≤ 1000000 := by
  have := spl_len c w
  have := tl_len (spl [c] 0 [] w)
  omega
theorem spl_in {c : Nat} {w x : Tx} (h : w.length ≤ 1000000) (hx : x ∈ spl [c] 0 [] w) : x.length ≤ 1000000 := by
  have := spl_len c w
  have := tl_mem hx
  omega
theorem good_qD : Good qD := fun a => ⟨rfl, rfl⟩
theorem good_tupD {α : Type} (f : α → D) : Good (tupD f) := fun a => ⟨rfl, rfl⟩
theorem okN_int (n : Nat) (i : Int) : D.okN n (.int i) = true := by cases n <;> rw [D.okN]
theorem okN_qD {n : Nat} (a : Nat × Nat) : D.okN (n + 1) (qD a) = true := by
  rw [qD, D.okN, D.okNs, D.okNs, D.okNs, okN_int, okN_int]; rfl
theorem okN_iD {n : Nat} (a : Nat) : D.okN n (iD a) = true := okN_int n _
theorem okN_tupD {α : Type} {n : Nat} {f : α → D} (hf : ∀ a, D.okN n (f a) = true) (as : List α) : D.okN (n + 1) (tupD f as) = true := by
  rw [tupD, D.okN]; exact okNs_map fun a _ => hf a
theorem two_le {k : Nat} (h : k ≤ 82) : 2 ^ (101 * (k + 1) + 1) < 2 ^ 9000 := Nat.pow_lt_pow_right (by omega) (by omega)
theorem s_add (a b : Nat × Nat) (k : Nat) (hk : k ≤ 82) (h1 : a.1 ≤ 2 ^ (101 * k + 1)) (h2 : a.2 ≤ 2 ^ (100 * k)) (h3 : 0 < a.2) (hb : BdQ b) (μ : Mu) : F_sum_of_two [.v (qD a), .v (qD b)] μ = .ok (qD (addF a b)) μ ∧ F__law_add [.v (qD a), .v (qD b)] μ = .ok (qD (addF a b)) μ := by
  obtain ⟨n1, n2, n3⟩ := addF_bd h1 h2 h3 hb
  have p1 : a.1 < 2 ^ 9000 := Nat.lt_of_le_of_lt (Nat.le_trans h1 (Nat.pow_le_pow_right (by omega) (by omega))) (two_le hk)
  have p2 : a.2 < 2 ^ 9000 := Nat.lt_of_le_of_lt (Nat.le_trans h2 (Nat.pow_le_pow_right (by omega) (by omega))) (two_le hk)
  have p3 : b.1 < 2 ^ 100 := lt30 hb.1
  have p4 : b.2 < 2 ^ 100 := lt30 hb.2.2
  have m1 : mulOk (a.1 : Int) (b.2 : Int) = true := mulOk_of 9000 100 (by rw [Int.natAbs_natCast]; exact p1) (by rw [Int.natAbs_natCast]; exact p4) (by omega) (by omega) (by omega)
  have m2 : mulOk (b.1 : Int) (a.2 : Int) = true := mulOk_of 100 9000 (by rw [Int.natAbs_natCast]; exact p3) (by rw [Int.natAbs_natCast]; exact p2) (by omega) (by omega) (by omega)
  have m3 : mulOk (a.2 : Int) (b.2 : Int) = true := mulOk_of 9000 100 (by rw [Int.natAbs_natCast]; exact p2) (by rw [Int.natAbs_natCast]; exact p4) (by omega) (by omega) (by omega)
  have t1 : a.1 * b.2 + b.1 * a.2 < 2 ^ 9000 := Nat.lt_of_le_of_lt n1 (two_le hk)
  have t2 : a.2 * b.2 < 2 ^ 9000 := Nat.lt_of_le_of_lt (Nat.le_trans n2 (Nat.pow_le_pow_right (by omega) (by omega))) (two_le hk)
  have e1 := s_lowest_nat (a.1 * b.2 + b.1 * a.2) (a.2 * b.2) 9000 n3 t2 (Nat.le_refl _)
  have e2 := s_law_low_nat (a.1 * b.2 + b.1 * a.2) (a.2 * b.2) 9000 9000 n3 t1 t2 (Nat.le_refl _) (Nat.le_refl _)
  have c1 : ((a.1 : Int) * (b.2 : Int) + (b.1 : Int) * (a.2 : Int)) = ((a.1 * b.2 + b.1 * a.2 : Nat) : Int) := by rw [Int.natCast_add, Int.natCast_mul, Int.natCast_mul]
  have c2 : ((a.2 : Int) * (b.2 : Int)) = ((a.2 * b.2 : Nat) : Int) := by rw [Int.natCast_mul]
  rw [← c1, ← c2] at e1 e2
  have ed : qD (addF a b) = .tup [.int (((a.1 * b.2 + b.1 * a.2) / Nat.gcd (a.1 * b.2 + b.1 * a.2) (a.2 * b.2) : Nat) : Int), .int (((a.2 * b.2) / Nat.gcd (a.1 * b.2 + b.1 * a.2) (a.2 * b.2) : Nat) : Int)] := rfl
  rw [ed]
  generalize ((a.1 * b.2 + b.1 * a.2) / Nat.gcd (a.1 * b.2 + b.1 * a.2) (a.2 * b.2)) = u at *
  generalize ((a.2 * b.2) / Nat.gcd (a.1 * b.2 + b.1 * a.2) (a.2 * b.2)) = v at *
  constructor
  · refine run_of ?_
    simp -implicitDefEqProofs [D_sum_of_two, qD, m1, m2, m3, e1]
  · refine run_of ?_
    simp -implicitDefEqProofs [D__law_add, qD, m1, m2, m3, e2]
theorem s_sum_of_all (l : List (Nat × Nat)) (hl : l.length ≤ 82) (hb : ∀ x ∈ l, BdQ x) (μ : Mu) : F_sum_of_all [.v (tupD qD l)] μ = .ok (qD (sumF l)) μ := by
  refine run_of ?_
  generalize hx : exs _ _ _ _ = o
  simp -implicitDefEqProofs [D_sum_of_all, tupD] at hx
  generalize hf : forGo _ _ _ _ _ = o2 at hx
  obtain ⟨ρ', μ', rfl, hI⟩ := for_o hf (fun k ρ μ' => μ' = μ ∧ ∃ y2, ρ = [some (.v (.tup (l.map qD))), some (.v (qD ((l.take k).foldl addF (0, 1)))), y2])
    ⟨rfl, none, rfl⟩ (by
    rintro i x hxi ρ μ' ⟨rfl, y2, rfl⟩
    rw [List.getElem?_map, Option.map_eq_some_iff] at hxi
    obtain ⟨b, hb1, rfl⟩ := hxi
    have hi := (List.getElem?_eq_some_iff.mp hb1).1
    obtain ⟨q1, q2, q3⟩ := sumF_bd (l.take i) (0, 1) 0 (by simp) (by simp) (by simp) fun c hc => hb c (List.mem_of_mem_take hc)
    have hlen : (l.take i).length = i := by rw [List.length_take]; omega
    rw [hlen, Nat.zero_add] at q1 q2
    have e := (s_add _ b i (by omega) q1 q2 q3 (hb b (List.mem_of_getElem? hb1)) μ').1
    refine ⟨_, by simp -implicitDefEqProofs; rfl, _, _, .inl (by simp -implicitDefEqProofs [e]; (first | done | rfl | exact ⟨rfl, rfl⟩)), rfl, some (.v (qD b)), ?_⟩
    rw [List.take_succ, hb1, List.foldl_append]
    simp)
  obtain ⟨rfl, y2, rfl⟩ := hI
  rw [List.length_map, List.take_length] at hx
  simp -implicitDefEqProofs at hx
  subst hx
  simp -implicitDefEqProofs [sumF]
theorem s_law_summed (l : List (Nat × Nat)) (hl : l.length ≤ 82) (hb : ∀ x ∈ l, BdQ x) (μ : Mu) : F__law_summed [.v (tupD qD l)] μ = .ok (qD (sumF l)) μ := by
  refine run_of ?_
  generalize hx : exs _ _ _ _ = o
  simp -implicitDefEqProofs [D__law_summed, tupD] at hx
  generalize hf : forGo _ _ _ _ _ = o2 at hx
  obtain ⟨ρ', μ', rfl, hI⟩ := for_o hf (fun k ρ μ' => μ' = μ ∧ ∃ y2, ρ = [some (.v (.tup (l.map qD))), some (.v (qD ((l.take k).foldl addF (0, 1)))), y2])
    ⟨rfl, none, rfl⟩ (by
    rintro i x hxi ρ μ' ⟨rfl, y2, rfl⟩
    rw [List.getElem?_map, Option.map_eq_some_iff] at hxi
    obtain ⟨b, hb1, rfl⟩ := hxi
    have hi := (List.getElem?_eq_some_iff.mp hb1).1
    obtain ⟨q1, q2, q3⟩ := sumF_bd (l.take i) (0, 1) 0 (by simp) (by simp) (by simp) fun c hc => hb c (List.mem_of_mem_take hc)
    have hlen : (l.take i).length = i := by rw [List.length_take]; omega
    rw [hlen, Nat.zero_add] at q1 q2
    have e := (s_add _ b i (by omega) q1 q2 q3 (hb b (List.mem_of_getElem? hb1)) μ').2
    refine ⟨_, by simp -implicitDefEqProofs; rfl, _, _, .inl (by simp -implicitDefEqProofs [e]; (first | done | rfl | exact ⟨rfl, rfl⟩)), rfl, some (.v (qD b)), ?_⟩
    rw [List.take_succ, hb1, List.foldl_append]
    simp)
  obtain ⟨rfl, y2, rfl⟩ := hI
  rw [List.length_map, List.take_length] at hx
  simp -implicitDefEqProofs at hx
  subst hx
  simp -implicitDefEqProofs [sumF]
/-- valid numbers -/
def Vq (x : Nat × Nat) : Prop := BdQ x ∧ Nat.gcd x.1 x.2 = 1
def pos (x : Nat × Nat) : Bool := decide (0 < x.1)
theorem eqv_one (x : Nat × Nat) : P.f2 .eq (qD x) (.tup [.int 1, .int 1]) = some (.bl (decide (x = (1, 1)))) := by
  have ok : ∀ a b : Int, okD (.tup [.int a, .int b]) = true := fun a b => okD_ints [a, b]
  rw [qD, f_eq_t, ok, ok]
  have : D.eqvs [.int (x.1 : Int), .int (x.2 : Int)] [.int 1, .int 1] = decide (x = (1, 1)) := by
    obtain ⟨m, n⟩ := x
    rw [Bool.eq_iff_iff]
    simp only [D.eqvs, eqv_int', Bool.and_true, Bool.and_eq_true, decide_eq_true_eq, Prod.mk.injEq]
    omega
  rw [this]; rfl
theorem ne_one (x : Nat × Nat) : P.f2 .ne (qD x) (.tup [.int 1, .int 1]) = some (.bl (!decide (x = (1, 1)))) := by
  have ok : ∀ a b : Int, okD (.tup [.int a, .int b]) = true := fun a b => okD_ints [a, b]
  show (if okD (qD x) && okD (.tup [.int 1, .int 1]) then some (D.bl (!D.eqv (qD x) (.tup [.int 1, .int 1]))) else none) = _
  rw [qD, ok, ok, D.eqv]
  have : D.eqvs [.int (x.1 : Int), .int (x.2 : Int)] [.int 1, .int 1] = decide (x = (1, 1)) := by
    obtain ⟨m, n⟩ := x
    rw [Bool.eq_iff_iff]
    simp only [D.eqvs, eqv_int', Bool.and_true, Bool.and_eq_true, decide_eq_true_eq, Prod.mk.injEq]
    omega
  rw [this]; rfl
def fPos : D → D
  | .tup (.int a :: _) => .bl (decide (0 < a))
  | _ => .non
def fZe : D → D
  | .tup (.int a :: _) => .bl (decide (a = 0))
  | _ => .non
theorem s_is_shares (l : List (Nat × Nat)) (h0 : l ≠ []) (hl : l.length ≤ 82) (hv : ∀ x ∈ l, Vq x) (μ : Mu) : F_is_shares [.v (tupD qD l)] μ = .ok (.bl (l.all pos && decide (sumF l = (1, 1)))) μ := by
  have hS : l.length ≤ SL := lt_SL (by omega)
  have e : ∀ μ, F_is_shares_of [.v (tupD qD l)] μ = .ok (.bl (l.all pos && decide (sumF l = (1, 1)))) μ := by
    intro μ
    have es := s_sum_of_all l hl fun x hx => (hv x hx).1
    have e1 := eqv_one (sumF l)
    refine run_of ?_
    generalize hx : exs _ _ _ _ = o
    have hne : ¬ (l.length : Int) = 0 := by
      have := List.length_pos_iff.mpr h0
      omega
    simp -implicitDefEqProofs [D_is_shares_of, tupD, isTy, hne, h0] at hx
    generalize hr : ev (.lc _ _ _ (.call _ _ _) _) _ _ = r' at hx
    have hr := lc_o0 hr (xs := l.map qD) (fun _ => .bl true) (by simp -implicitDefEqProofs) (by simpa using hS) (by
      intro x hx
      rw [List.mem_map] at hx
      obtain ⟨a, ha, rfl⟩ := hx
      have e := s_is_number_of a.1 a.2 (hv a ha).1.2.2
      have hd : decide (0 < a.2 ∧ Nat.gcd a.1 a.2 = 1) = true := by
        rw [decide_eq_true_eq]
        exact ⟨(hv a ha).1.2.1, (hv a ha).2⟩
      rw [hd] at e
      refine ⟨_, by simp -implicitDefEqProofs; rfl, fun c => ?_⟩
      simp -implicitDefEqProofs [qD, e])
    subst hr
    have hb := blsOf_true (l.map qD)
    have ha := all_true (l.map qD)
    simp -implicitDefEqProofs [hb, -List.map_map, -List.all_map, ha] at hx
    generalize hr : ev (.lc _ _ _ _ _) _ _ = r' at hx
    have hr := lc_o0 hr (xs := l.map qD) fPos (by simp -implicitDefEqProofs) (by simpa using hS) (by
      intro x hx
      rw [List.mem_map] at hx
      obtain ⟨a, ha, rfl⟩ := hx
      refine ⟨_, by simp -implicitDefEqProofs; rfl, fun c => ?_⟩
      simp -implicitDefEqProofs [qD, fPos])
    subst hr
    rw [show (l.map qD).map fPos = l.map fun x => .bl (pos x) by
      rw [List.map_map]
      refine List.map_congr_left fun a _ => ?_
      simp [fPos, qD, pos]] at hx
    have hb2 := blsOf_map l pos
    have hall : (l.map pos).all id = l.all pos := by simp
    unfold tupD at es
    cases hp : l.all pos with
    | true =>
      rw [hp] at hall
      simp -implicitDefEqProofs [hb2, -List.all_map, hall, es, e1] at hx
      subst hx
      simp -implicitDefEqProofs
    | false =>
      rw [hp] at hall
      simp -implicitDefEqProofs [hb2, -List.all_map, hall] at hx
      subst hx
      simp -implicitDefEqProofs
  refine run_of ?_
  simp -implicitDefEqProofs [D_is_shares, e]
def sharesOf (w : Tx) : Option (List (Nat × Nat)) := (allO ((spl [32] 0 [] w).map qOf)).bind fun l => if (l.all pos && decide (sumF l = (1, 1))) = true then some l else none
theorem words_all {α : Type} {f : Tx → Option α} {c : Nat} {t : Tx} {as : List α} (h : allO ((spl [c] 0 [] t).map f) = some as) : (∀ a ∈ as, ∃ w, f w = some a) ∧ as.length = (spl [c] 0 [] t).length := by
  have e := allO_some h
  constructor
  · intro a ha
    have : some a ∈ (spl [c] 0 [] t).map f := by rw [e]; exact List.mem_map.mpr ⟨a, ha, rfl⟩
    rw [List.mem_map] at this
    obtain ⟨w, _, hw⟩ := this
    exact ⟨w, hw⟩
  · have := congrArg List.length e
    simpa using this.symm
theorem words_vq {t : Tx} {as : List (Nat × Nat)} (h : allO ((spl [32] 0 [] t).map qOf) = some as) (hc : t.count 32 ≤ 80) : (∀ x ∈ as, Vq x) ∧ as ≠ [] ∧ as.length ≤ 82 := by
  obtain ⟨h1, h2⟩ := words_all h
  rw [spl_cnt] at h2
  refine ⟨fun x hx => ?_, ?_, by omega⟩
  · obtain ⟨w, hw⟩ := h1 x hx
    obtain ⟨_, b1, b2, b3, b4⟩ := q_some hw
    exact ⟨⟨b1, b2, b3⟩, b4⟩
  · rintro rfl
    simp at h2
theorem s_shares_of (w : Tx) (h : w.length ≤ 900000) (hc : w.count 32 ≤ 80) (μ : Mu) : F_shares_of [.v (.str w)] μ = .ok (oD (tupD qD) (sharesOf w)) μ := by
  have hS2 : w.length + 2 ≤ SL := by rw [SL_eq]; omega
  have ew := s_whole qD good_qD ((spl [32] 0 [] w).map qOf) (by rw [List.length_map]; exact spl_mil h)
  refine run_of ?_
  generalize hx : exs _ _ _ _ = o
  simp -implicitDefEqProofs [D_shares_of, hS2, low32] at hx
  generalize hr : ev (.lc _ _ _ _ _) _ _ = r' at hx
  have hr := lc_o0 hr (xs := (spl [32] 0 [] w).map .str) (fW fun t => oD qD (qOf t)) (by simp -implicitDefEqProofs [hS2, low32]) (spl_SL (by omega)) (by
    intro x hx
    rw [List.mem_map] at hx
    obtain ⟨c, hc, rfl⟩ := hx
    have e := s_number_of c (spl_in (by omega) hc)
    refine ⟨_, by simp -implicitDefEqProofs; rfl, fun c => ?_⟩
    simp -implicitDefEqProofs [e, fW])
  subst hr
  rw [fW_map, show (spl [32] 0 [] w).map (fun t => oD qD (qOf t)) = ((spl [32] 0 [] w).map qOf).map (oD qD) by rw [List.map_map]; rfl] at hx
  simp only [r_bind_ok, ew] at hx
  cases ho : allO ((spl [32] 0 [] w).map qOf) with
  | none =>
    rw [ho] at hx
    simp -implicitDefEqProofs at hx
    subst hx
    simp -implicitDefEqProofs [sharesOf, ho]
  | some l =>
    obtain ⟨v1, v2, v3⟩ := words_vq ho hc
    have ei := s_is_shares l v2 v3 v1
    rw [ho] at hx
    cases hb : (l.all pos && decide (sumF l = (1, 1))) with
    | true =>
      rw [hb] at ei
      unfold tupD at ei hx
      simp -implicitDefEqProofs [ei] at hx
      subst hx
      simp -implicitDefEqProofs only [sharesOf, ho, Option.bind_some, hb, if_true, oD_some, fin_ret, tupD]
      simp
    | false =>
      rw [hb] at ei
      unfold tupD at ei hx
      simp -implicitDefEqProofs [ei] at hx
      subst hx
      simp -implicitDefEqProofs only [sharesOf, ho, Option.bind_some, hb, oD_none, fin_ret]
      simp
end Tw

set_option linter.all false
set_option maxRecDepth 100000
/-! V2: the law's shares; figures and tosses. -/
namespace Tw
open Wp Lw
theorem okD_pairs (l : List (Nat × Nat)) : okD (.lst [tupD qD l]) = true := by
  unfold okD
  rw [D.okN, D.okNs, D.okNs, okN_tupD (fun a => okN_qD a)]; rfl
theorem s_shares_in (w : Tx) (h : w.length ≤ 900000) (hc : w.count 32 ≤ 80) (μ : Mu) : F__law_shares_in [.v (.str w)] μ = .ok (oL (tupD qD) (sharesOf w)) μ := by
  have hS2 : w.length + 2 ≤ SL := by rw [SL_eq]; omega
  have ew := s_all_in qD (fun a => okN_qD a) ((spl [32] 0 [] w).map qOf) (by rw [List.length_map]; exact spl_mil h)
  have ok0 : okD (.lst []) = true := rfl
  refine run_of ?_
  generalize hx : exs _ _ _ _ = o
  simp -implicitDefEqProofs [D__law_shares_in, hS2, low32] at hx
  generalize hr : ev (.lc (.of (.meth _ _ _)) _ _ _ _) _ _ = r' at hx
  have hr := lc_o0 hr (xs := (spl [32] 0 [] w).map .str) (fW fun t => oL qD (qOf t)) (by simp -implicitDefEqProofs [hS2, low32]) (spl_SL (by omega)) (by
    intro x hx
    rw [List.mem_map] at hx
    obtain ⟨c, hc, rfl⟩ := hx
    have e := s_part_in c (spl_in (by omega) hc)
    refine ⟨_, by simp -implicitDefEqProofs; rfl, fun c => ?_⟩
    simp -implicitDefEqProofs [e, fW])
  subst hr
  rw [fW_map, show (spl [32] 0 [] w).map (fun t => oL qD (qOf t)) = ((spl [32] 0 [] w).map qOf).map (oL qD) by rw [List.map_map]; rfl] at hx
  simp only [r_bind_ok, ew] at hx
  cases ho : allO ((spl [32] 0 [] w).map qOf) with
  | none =>
    rw [ho] at hx
    simp -implicitDefEqProofs [ok0, D.eqvs] at hx
    subst hx
    simp -implicitDefEqProofs [sharesOf, ho]
  | some l =>
    obtain ⟨v1, v2, v3⟩ := words_vq ho hc
    have hS : l.length ≤ SL := lt_SL (by omega)
    have es := s_law_summed l v3 fun x hx => (v1 x hx).1
    have e1 := ne_one (sumF l)
    have ok1 := okD_pairs l
    rw [ho] at hx
    unfold tupD at es ok1 hx
    simp -implicitDefEqProofs [ok0, ok1, D.eqvs] at hx
    generalize hr : ev (.lc _ _ _ _ _) _ _ = r' at hx
    have hr := lc_o0 hr (xs := l.map qD) fZe (by simp -implicitDefEqProofs) (by simpa using hS) (by
      intro x hx
      rw [List.mem_map] at hx
      obtain ⟨a, ha, rfl⟩ := hx
      refine ⟨_, by simp -implicitDefEqProofs; rfl, fun c => ?_⟩
      simp -implicitDefEqProofs [qD, fZe])
    subst hr
    rw [show (l.map qD).map fZe = l.map fun x => .bl (!pos x) by
      rw [List.map_map]
      refine List.map_congr_left fun a _ => ?_
      have : (decide ((a.1 : Int) = 0)) = !decide (0 < a.1) := by
        rw [Bool.eq_iff_iff]
        simp
      simp only [Function.comp, fZe, qD, pos, this]] at hx
    have hb2 := blsOf_map l fun x => !pos x
    have hany : (l.map fun x => !pos x).any id = !l.all pos := by
      rw [List.all_eq_not_any_not, Bool.not_not]; simp
    cases hp : l.all pos with
    | true =>
      rw [hp] at hany
      cases hd : decide (sumF l = (1, 1)) with
      | true =>
        rw [hd] at e1
        simp -implicitDefEqProofs [hb2, -List.any_map, hany, es, e1] at hx
        subst hx
        have hb : (l.all pos && decide (sumF l = (1, 1))) = true := by rw [hp, hd]; rfl
        simp -implicitDefEqProofs only [sharesOf, ho, Option.bind_some, hb, if_true, oL_some, fin_ret, tupD]
        simp
      | false =>
        rw [hd] at e1
        simp -implicitDefEqProofs [hb2, -List.any_map, hany, es, e1] at hx
        subst hx
        have hb : (l.all pos && decide (sumF l = (1, 1))) = false := by rw [hp, hd]; rfl
        simp -implicitDefEqProofs only [sharesOf, ho, Option.bind_some, hb, oL_none, fin_ret]
        simp
    | false =>
      rw [hp] at hany
      simp -implicitDefEqProofs [hb2, -List.any_map, hany] at hx
      subst hx
      have hb : (l.all pos && decide (sumF l = (1, 1))) = false := by rw [hp]; rfl
      simp -implicitDefEqProofs only [sharesOf, ho, Option.bind_some, hb, oL_none, fin_ret]
      simp
/- figures -/
def fBit : D → D
  | .str [c] => .int ((c - 48 : Nat) : Int)
  | _ => .non
theorem digVal1 (c : Nat) : digVal [c] = c - 48 := by simp [digVal]
theorem bit_dig {c : Nat} (h : isBit c = true) : digit c = true := by
  have := isBit_iff.mp h
  rcases this with rfl | rfl <;> rfl
theorem s_signs_of (t : Tx) (h : t.length ≤ 1000000) (μ : Mu) : F_signs_of [.v (.str t)] μ = .ok (oD bitsD (bitsOf t)) μ := by
  have hS : t.length ≤ SL := lt_SL h
  refine run_of ?_
  generalize hx : exs _ _ _ _ = o
  simp -implicitDefEqProofs [D_signs_of] at hx
  generalize hr : ev (.lc _ _ _ (.prim .inn _) _) _ _ = r' at hx
  have hr := lc_o0 hr (xs := t.map fun c => .str [c]) (fIn [48, 49]) (by simp -implicitDefEqProofs) (by simpa using hS) (by
    intro x hx
    rw [List.mem_map] at hx
    obtain ⟨c, _, rfl⟩ := hx
    refine ⟨_, by simp -implicitDefEqProofs; rfl, fun c => ?_⟩
    simp -implicitDefEqProofs [fIn])
  subst hr
  rw [fIn_map, show (t.map fun c => D.bl (([48, 49] : Tx).contains c)) = t.map fun c => .bl (isBit c) from rfl] at hx
  have hb := blsOf_map t isBit
  have hall : (t.map isBit).all id = t.all isBit := by simp
  cases ha : t.all isBit with
  | true =>
    rw [ha] at hall
    simp -implicitDefEqProofs [hb, -List.all_map, hall] at hx
    generalize hr : ev (.lc _ _ _ _ _) _ _ = r' at hx
    have hr := lc_o0 hr (xs := t.map fun c => .str [c]) fBit (by simp -implicitDefEqProofs) (by simpa using hS) (by
      intro x hx
      rw [List.mem_map] at hx
      obtain ⟨c, hc, rfl⟩ := hx
      have hd := bit_dig (List.all_eq_true.mp ha c hc)
      refine ⟨_, by simp -implicitDefEqProofs; rfl, fun c => ?_⟩
      simp -implicitDefEqProofs [fBit, hd, digVal1])
    subst hr
    rw [show (t.map fun c => D.str [c]).map fBit = (t.map (· - 48)).map iD by
      rw [List.map_map, List.map_map]
      refine List.map_congr_left fun a _ => ?_
      simp [fBit, iD]] at hx
    simp -implicitDefEqProofs [-List.map_map] at hx
    subst hx
    have e : bitsOf t = some (t.map (· - 48)) := by unfold bitsOf; rw [if_pos ha]
    rw [e]
    simp -implicitDefEqProofs [-List.map_map, bitsD]
  | false =>
    rw [ha] at hall
    simp -implicitDefEqProofs [hb, -List.all_map, hall] at hx
    subst hx
    have e : bitsOf t = none := by unfold bitsOf; rw [if_neg (by rw [ha]; simp)]
    rw [e]
    simp -implicitDefEqProofs
theorem s_law_bits (t : Tx) (h : t.length ≤ 1000000) (μ : Mu) : F__law_bits [.v (.str t)] μ = .ok (oL bitsD (bitsOf t)) μ := by
  have hS : t.length ≤ SL := lt_SL h
  refine run_of ?_
  generalize hx : exs _ _ _ _ = o
  simp -implicitDefEqProofs [D__law_bits] at hx
  generalize hr : ev (.lc _ _ _ (.prim .notin _) _) _ _ = r' at hx
  have hr := lc_o0 hr (xs := t.map fun c => .str [c]) (fNin [48, 49]) (by simp -implicitDefEqProofs) (by simpa using hS) (by
    intro x hx
    rw [List.mem_map] at hx
    obtain ⟨c, _, rfl⟩ := hx
    refine ⟨_, by simp -implicitDefEqProofs; rfl, fun c => ?_⟩
    simp -implicitDefEqProofs [fNin])
  subst hr
  rw [fNin_map, show (t.map fun c => D.bl (!([48, 49] : Tx).contains c)) = t.map fun c => .bl (!isBit c) from rfl] at hx
  have hb := blsOf_map t fun c => !isBit c
  have hany : (t.map fun c => !isBit c).any id = !t.all isBit := by
    rw [List.all_eq_not_any_not, Bool.not_not]; simp
  cases ha : t.all isBit with
  | true =>
    rw [ha] at hany
    simp -implicitDefEqProofs [hb, -List.any_map, hany] at hx
    generalize hr : ev (.lc _ _ _ _ _) _ _ = r' at hx
    have hr := lc_o0 hr (xs := t.map fun c => .str [c]) fBit (by simp -implicitDefEqProofs) (by simpa using hS) (by
      intro x hx
      rw [List.mem_map] at hx
      obtain ⟨c, hc, rfl⟩ := hx
      have hd := bit_dig (List.all_eq_true.mp ha c hc)
      refine ⟨_, by simp -implicitDefEqProofs; rfl, fun c => ?_⟩
      simp -implicitDefEqProofs [fBit, hd, digVal1])
    subst hr
    rw [show (t.map fun c => D.str [c]).map fBit = (t.map (· - 48)).map iD by
      rw [List.map_map, List.map_map]
      refine List.map_congr_left fun a _ => ?_
      simp [fBit, iD]] at hx
    simp -implicitDefEqProofs [-List.map_map] at hx
    subst hx
    have e : bitsOf t = some (t.map (· - 48)) := by unfold bitsOf; rw [if_pos ha]
    rw [e]
    simp -implicitDefEqProofs [-List.map_map, bitsD]
  | false =>
    rw [ha] at hany
    simp -implicitDefEqProofs [hb, -List.any_map, hany] at hx
    subst hx
    have e : bitsOf t = none := by unfold bitsOf; rw [if_neg (by rw [ha]; simp)]
    rw [e]
    simp -implicitDefEqProofs
theorem low40 : low [40] = true := rfl
theorem low41 : low [41] = true := rfl
@[simp] theorem f_ew (a b) : P.f2 .endswith (.str a) (.str b) = some (.bl (b.length ≤ a.length && a.drop (a.length - b.length) == b)) := Eq.trans rfl rfl
theorem ends_nil : ends [] = false := rfl
theorem ends_some {r : Tx} (h : ends r = true) : r = r.dropLast ++ [41] := by
  unfold ends at h
  have h := eq_of_beq h
  have : r.length - 1 < r.length ∨ r = [] := by
    cases r with
    | nil => exact .inr rfl
    | cons x r => left; simp
  rcases this with h1 | rfl
  · rw [List.dropLast_eq_take]
    have := List.take_append_drop (r.length - 1) r
    rw [h] at this
    exact this.symm
  · simp at h
theorem whole_bits (x y : Option (List Nat)) (μ : Mu) : F_whole [.v (.lst [oD bitsD x, oD bitsD y])] μ = .ok (oD (tupD bitsD) (allO [x, y])) μ := s_whole bitsD (good_tupD iD) [x, y] (by simp) μ
theorem s_figures_of (w : Tx) (h : w.length ≤ 900000) (μ : Mu) : F_figures_of [.v (.str w)] μ = .ok (oD (tupD bitsD) (figOf w)) μ := by
  have hS := lt_SL (show w.length ≤ 1000000 by omega)
  refine run_of ?_
  generalize hx : exs _ _ _ _ = o
  cases hp : par [40] [] w with
  | none =>
    have ep := prt_none hp
    simp -implicitDefEqProofs [D_figures_of, hS, low40, ep] at hx
    subst hx
    simp -implicitDefEqProofs [figOf, hp]
  | some ab =>
    obtain ⟨a, r⟩ := ab
    have ep := prt_some hp
    obtain ⟨la, lb⟩ := par_len hp
    have hSr := lt_SL (show r.length ≤ 1000000 by omega)
    cases he : ends r with
    | false =>
      have he2 : (decide (1 ≤ r.length) && r.drop (r.length - 1) == [41]) = false := by
        unfold ends at he
        rw [he, Bool.and_false]
      simp -implicitDefEqProofs only [D_figures_of, s_cons, s_set, e_meth, e_var] at hx
      simp -implicitDefEqProofs [hS, low40, ep, he2] at hx
      subst hx
      simp -implicitDefEqProofs [figOf, hp, he]
    | true =>
      have hr := ends_some he
      have he2 : (decide (1 ≤ r.length) && r.drop (r.length - 1) == [41]) = true := by
        have h1 : 1 ≤ r.length := by rw [hr]; simp
        unfold ends at he
        rw [he, Bool.and_true, decide_eq_true_eq]
        exact h1
      by_cases h1 : r.dropLast = []
      · have hr1 : (r == [41]) = true := by rw [hr, h1]; rfl
        have hlen : ¬ 2 ≤ r.length := by rw [hr, h1]; simp
        simp -implicitDefEqProofs only [D_figures_of, s_cons, s_set, e_meth, e_var] at hx
        simp -implicitDefEqProofs [hS, low40, ep, he2, hr1] at hx
        subst hx
        simp -implicitDefEqProofs [figOf, hp, he, hlen]
      · have hr1 : (r == [41]) = false := by
          rw [beq_eq_false_iff_ne]
          intro z
          rw [z] at h1
          exact h1 rfl
        have hlen : 2 ≤ r.length := by
          have := List.length_pos_iff.mpr h1
          rw [List.length_dropLast] at this
          omega
        have e1 := s_signs_of a (by omega)
        have e2 := s_signs_of r.dropLast (by rw [List.length_dropLast]; omega)
        have ew := whole_bits (bitsOf a) (bitsOf r.dropLast)
        simp -implicitDefEqProofs only [D_figures_of, s_cons, s_set, e_meth, e_var] at hx
        simp -implicitDefEqProofs [hS, hSr, low40, ep, he2, hr1, cut_hi_n1, e1, e2, ew] at hx
        subst hx
        simp -implicitDefEqProofs [figOf, hp, he, hlen]
theorem okN_bitsD {n : Nat} (a : List Nat) : D.okN (n + 1) (bitsD a) = true := okN_tupD (fun a => okN_iD a) a
theorem in_bits (x y : Option (List Nat)) : inOf (.lst []) (.lst [oL bitsD x, oL bitsD y]) = some (allO [x, y]).isNone := by
  have ok1 : okD (.lst []) = true := rfl
  have ok2 : D.okNs 59 ([x, y].map (oL bitsD)) = true := okNs_map fun a _ => okN_oL (fun a => okN_bitsD a) a
  have h := any_nil bitsD [x, y]
  simp only [List.map_cons, List.map_nil] at ok2 h
  rw [in_lst, ok1, ok2, h]; rfl
theorem s_figures_in (w : Tx) (h : w.length ≤ 900000) (μ : Mu) : F__law_figures_in [.v (.str w)] μ = .ok (oL (tupD bitsD) (figOf w)) μ := by
  have hS := lt_SL (show w.length ≤ 1000000 by omega)
  have s0 : 0 ≤ SL := Nat.zero_le _
  refine run_of ?_
  generalize hx : exs _ _ _ _ = o
  cases hp : par [40] [] w with
  | none =>
    have ep := prt_none hp
    have e1 := s_law_bits w (by omega)
    have e2 := s_law_bits [] (by simp)
    have eb : bitsOf [] = some [] := rfl
    rw [eb] at e2
    simp -implicitDefEqProofs at e2
    simp -implicitDefEqProofs [D__law_figures_in, hS, low40, ep, s0, cut_hi_n1, e1, e2] at hx
    subst hx
    simp -implicitDefEqProofs [figOf, hp]
  | some ab =>
    obtain ⟨a, r⟩ := ab
    have ep := prt_some hp
    obtain ⟨la, lb⟩ := par_len hp
    have hSr := lt_SL (show r.length ≤ 1000000 by omega)
    have e1 := s_law_bits a (by omega)
    have e2 := s_law_bits r.dropLast (by rw [List.length_dropLast]; omega)
    have hi := in_bits (bitsOf a) (bitsOf r.dropLast)
    cases he : ends r with
    | false =>
      have he2 : (r.drop (r.length - 1) == [41]) = false := he
      simp -implicitDefEqProofs [D__law_figures_in, hS, low40, ep, hSr, cut_hi_n1, cut_lo_n1, e1, e2, he2] at hx
      subst hx
      simp -implicitDefEqProofs [figOf, hp, he]
    | true =>
      have he2 : (r.drop (r.length - 1) == [41]) = true := he
      by_cases hlen : 2 ≤ r.length
      · have hl2 : ¬ (r.length : Int) < 2 := by omega
        have hl3 : ¬ r.length < 2 := by omega
        cases hba : bitsOf a with
        | none =>
          rw [hba] at e1 hi
          simp -implicitDefEqProofs [allO] at e1 hi
          simp -implicitDefEqProofs [D__law_figures_in, hS, low40, ep, hSr, cut_hi_n1, cut_lo_n1, e1, e2, he2, hl2, hl3, hi] at hx
          subst hx
          simp -implicitDefEqProofs [figOf, hp, he, hlen, hba, allO]
        | some x =>
          cases hbb : bitsOf r.dropLast with
          | none =>
            rw [hba] at e1 hi
            rw [hbb] at e2 hi
            simp -implicitDefEqProofs [allO] at e1 e2 hi
            simp -implicitDefEqProofs [D__law_figures_in, hS, low40, ep, hSr, cut_hi_n1, cut_lo_n1, e1, e2, he2, hl2, hl3, hi] at hx
            subst hx
            simp -implicitDefEqProofs [figOf, hp, he, hlen, hba, hbb, allO]
          | some y =>
            rw [hba] at e1 hi
            rw [hbb] at e2 hi
            simp -implicitDefEqProofs [allO] at e1 e2 hi
            simp -implicitDefEqProofs [D__law_figures_in, hS, low40, ep, hSr, cut_hi_n1, cut_lo_n1, e1, e2, he2, hl2, hl3, hi] at hx
            subst hx
            simp -implicitDefEqProofs [figOf, hp, he, hlen, hba, hbb, allO, tupD]
      · have hl2 : (r.length : Int) < 2 := by omega
        have hl3 : r.length < 2 := by omega
        simp -implicitDefEqProofs [D__law_figures_in, hS, low40, ep, hSr, cut_hi_n1, cut_lo_n1, e1, e2, he2, hl2, hl3] at hx
        subst hx
        simp -implicitDefEqProofs [figOf, hp, he, hlen]
theorem s_tosses_of (w : Tx) (h : w.length ≤ 900000) (μ : Mu) : F_tosses_of [.v (.str w)] μ = .ok (oD bitsD (tosOf w)) μ := by
  have e := s_signs_of w (by omega)
  refine run_of ?_
  unfold tosOf
  by_cases h1 : w = [45]
  · subst h1
    simp -implicitDefEqProofs [D_tosses_of, bitsD]
  · have h1' : (w == [45]) = false := by simpa using h1
    by_cases h2 : w = []
    · subst h2
      simp -implicitDefEqProofs [D_tosses_of]
    · have h2' : (w == []) = false := by simpa using h2
      rw [if_neg h1, if_neg h2]
      simp -implicitDefEqProofs only [D_tosses_of, s_cons, s_ife]
      simp -implicitDefEqProofs [h1', h2', h2, e]
theorem s_tosses_in (w : Tx) (h : w.length ≤ 900000) (μ : Mu) : F__law_tosses_in [.v (.str w)] μ = .ok (oL bitsD (tosOf w)) μ := by
  have e := s_law_bits w (by omega)
  refine run_of ?_
  unfold tosOf
  by_cases h1 : w = [45]
  · subst h1
    simp -implicitDefEqProofs [D__law_tosses_in, bitsD]
  · have h1' : (w == [45]) = false := by simpa using h1
    by_cases h2 : w = []
    · subst h2
      simp -implicitDefEqProofs [D__law_tosses_in]
    · have h2' : (w == []) = false := by simpa using h2
      rw [if_neg h1, if_neg h2]
      simp -implicitDefEqProofs [D__law_tosses_in, h1', h2', h2, e]
end Tw

set_option linter.all false
set_option maxRecDepth 100000
/-! V3: the one line of a text; reading, showing. -/
namespace Tw
open Wp Lw
def rdR {α : Type} (f : α → D) (rd : Tx → Option α) (t : Tx) (μ : Mu) : Res D := match rd (fstL t) with
  | none => .exc "Unreadable" (.int 1) μ
  | some a => if more t then .exc "Unreadable" (.int 2) μ else .ok (f a) μ
def rdD {α : Type} (f : α → D) (rd : Tx → Option α) (t : Tx) : D := match rd (fstL t) with
  | none => .tup [.bl false, .int 1]
  | some a => if more t then .tup [.bl false, .int 2] else .tup [.bl true, f a]
/-- the texts that are asked -/
def Ask (t : Tx) : Prop := t.length ≤ 900000 ∧ (fstL t).count 32 ≤ 80
theorem ask_len {t : Tx} (h : Ask t) : (fstL t).length ≤ 900000 := Nat.le_trans (fstL_len t) h.1
theorem s_only {α : Type} {f : α → D} (hf : Good f) (rd : Tx → Option α) (x : String) (G : Fn) (hl : List.lookup x [("number_of", F_number_of), ("shares_of", F_shares_of), ("figures_of", F_figures_of), ("tosses_of", F_tosses_of)] = some G)
    (t : Tx) (h : Ask t) (e : ∀ μ, G [.v (.str (fstL t))] μ = .ok (oD f (rd (fstL t))) μ) (μ : Mu) : F_only [.v (.fn x), .v (.str t)] μ = rdR f rd t μ := by
  have hS := lt_SL (show t.length ≤ 1000000 by have := h.1; omega)
  refine run_of ?_
  generalize hx : exs _ _ _ _ = o
  unfold rdR
  cases hp : par [10] [] t with
  | none =>
    have hm : more t = false := by unfold more; rw [hp]; rfl
    have hfs : fstL t = t := by unfold fstL; rw [hp]
    have ep := prt_none hp
    rw [hfs] at e ⊢
    rw [hm]
    cases hr : rd t with
    | none =>
      rw [hr] at e
      simp -implicitDefEqProofs at e
      simp -implicitDefEqProofs only [D_only, s_cons, s_set, e_meth, e_var] at hx
      simp -implicitDefEqProofs [hS, low10, ep, hl, e] at hx
      subst hx
      simp -implicitDefEqProofs
    | some a =>
      rw [hr] at e
      have h1 := f_isN (hf a).1
      rw [(hf a).2] at h1
      simp -implicitDefEqProofs at e
      simp -implicitDefEqProofs only [D_only, s_cons, s_set, e_meth, e_var] at hx
      simp -implicitDefEqProofs [hS, low10, ep, hl, e, h1] at hx
      subst hx
      simp -implicitDefEqProofs
  | some ab =>
    obtain ⟨a, b⟩ := ab
    have hm : more t = true := by unfold more; rw [hp]; rfl
    have hfs : fstL t = a := by unfold fstL; rw [hp]
    have ep := prt_some hp
    rw [hfs] at e ⊢
    rw [hm]
    cases hr : rd a with
    | none =>
      rw [hr] at e
      simp -implicitDefEqProofs at e
      simp -implicitDefEqProofs only [D_only, s_cons, s_set, e_meth, e_var] at hx
      simp -implicitDefEqProofs [hS, low10, ep, hl, e] at hx
      subst hx
      simp -implicitDefEqProofs
    | some y =>
      rw [hr] at e
      have h1 := f_isN (hf y).1
      rw [(hf y).2] at h1
      simp -implicitDefEqProofs at e
      simp -implicitDefEqProofs only [D_only, s_cons, s_set, e_meth, e_var] at hx
      simp -implicitDefEqProofs [hS, low10, ep, hl, e, h1] at hx
      subst hx
      simp -implicitDefEqProofs
theorem s_one_line {α : Type} {f : α → D} (hf : ∀ a, D.okN 59 (f a) = true) (rd : Tx → Option α) (x : String) (G : Fn) (hl : List.lookup x [("_law_part_in", F__law_part_in), ("_law_shares_in", F__law_shares_in), ("_law_figures_in", F__law_figures_in), ("_law_tosses_in", F__law_tosses_in)] = some G)
    (t : Tx) (h : Ask t) (e : ∀ μ, G [.v (.str (fstL t))] μ = .ok (oL f (rd (fstL t))) μ) (μ : Mu) : F__law_one_line [.v (.fn x), .v (.str t)] μ = .ok (rdD f rd t) μ := by
  have hS2 : t.length + 2 ≤ SL := by have := h.1; rw [SL_eq]; omega
  have ok0 : okD (.lst []) = true := rfl
  refine run_of ?_
  generalize hx : exs _ _ _ _ = o
  unfold rdD
  have es := spl_par 10 t []
  cases hp : par [10] [] t with
  | none =>
    have hm : more t = false := by unfold more; rw [hp]; rfl
    have hfs : fstL t = t := by unfold fstL; rw [hp]
    rw [hp] at es
    simp only [List.nil_append] at es
    rw [hfs] at e ⊢
    rw [hm]
    cases hr : rd t with
    | none =>
      rw [hr] at e
      simp -implicitDefEqProofs at e
      simp -implicitDefEqProofs only [D__law_one_line, s_cons, s_set, e_meth, e_var] at hx
      simp -implicitDefEqProofs [hS2, low10, es, hl, e, ok0, D.eqvs] at hx
      subst hx
      simp -implicitDefEqProofs
    | some a =>
      have ok1 : okD (.lst [f a]) = true := by unfold okD; rw [D.okN, D.okNs, D.okNs, hf a]; rfl
      rw [hr] at e
      simp -implicitDefEqProofs at e
      simp -implicitDefEqProofs only [D__law_one_line, s_cons, s_set, e_meth, e_var] at hx
      simp -implicitDefEqProofs [hS2, low10, es, hl, e, ok0, ok1, D.eqvs] at hx
      subst hx
      simp -implicitDefEqProofs
  | some ab =>
    obtain ⟨a, b⟩ := ab
    have hm : more t = true := by unfold more; rw [hp]; rfl
    have hfs : fstL t = a := by unfold fstL; rw [hp]
    rw [hp] at es
    simp only at es
    have h1 : (1 : Int) < ((spl [10] 0 [] b).length : Int) + 1 := by
      have := List.length_pos_iff.mpr (spl_ne 10 b [])
      omega
    have h1' : 0 < (spl [10] 0 [] b).length := List.length_pos_iff.mpr (spl_ne 10 b [])
    rw [hfs] at e ⊢
    rw [hm]
    cases hr : rd a with
    | none =>
      rw [hr] at e
      simp -implicitDefEqProofs at e
      simp -implicitDefEqProofs only [D__law_one_line, s_cons, s_set, e_meth, e_var] at hx
      simp -implicitDefEqProofs [hS2, low10, es, hl, e, ok0, D.eqvs] at hx
      subst hx
      simp -implicitDefEqProofs
    | some y =>
      have ok1 : okD (.lst [f y]) = true := by unfold okD; rw [D.okN, D.okNs, D.okNs, hf y]; rfl
      rw [hr] at e
      simp -implicitDefEqProofs at e
      simp -implicitDefEqProofs only [D__law_one_line, s_cons, s_set, e_meth, e_var] at hx
      simp -implicitDefEqProofs [hS2, low10, es, hl, e, ok0, ok1, D.eqvs, h1, h1'] at hx
      subst hx
      simp -implicitDefEqProofs
theorem rd_cases {α : Type} (f : α → D) (rd : Tx → Option α) (t : Tx) : (∃ k : Int, rdD f rd t = .tup [.bl false, .int k] ∧ ∀ μ, rdR f rd t μ = .exc "Unreadable" (.int k) μ) ∨ ∃ a, rd (fstL t) = some a ∧ more t = false ∧ rdD f rd t = .tup [.bl true, f a] ∧ ∀ μ, rdR f rd t μ = .ok (f a) μ := by
  unfold rdD rdR
  cases hr : rd (fstL t) with
  | none => exact .inl ⟨1, rfl, fun _ => rfl⟩
  | some a =>
    cases hm : more t with
    | true => exact .inl ⟨2, rfl, fun _ => rfl⟩
    | false => exact .inr ⟨a, rfl, rfl, rfl, fun _ => rfl⟩
theorem good_bitsD : Good bitsD := good_tupD iD
theorem s_read_number (t : Tx) (h : Ask t) (μ : Mu) : F_read_number [.v (.str t)] μ = rdR qD qOf t μ := by
  have e := s_only good_qD qOf "number_of" F_number_of (by simp [List.lookup]) t h fun μ => s_number_of _ (by have := ask_len h; omega) μ
  refine run_of ?_
  rcases rd_cases qD qOf t with ⟨k, _, h2⟩ | ⟨a, _, _, _, h2⟩ <;> (simp only [h2] at e ⊢; simp -implicitDefEqProofs [D_read_number, e])
theorem s_read_shares (t : Tx) (h : Ask t) (μ : Mu) : F_read_shares [.v (.str t)] μ = rdR (tupD qD) sharesOf t μ := by
  have e := s_only (good_tupD qD) sharesOf "shares_of" F_shares_of (by simp [List.lookup]) t h fun μ => s_shares_of _ (ask_len h) h.2 μ
  refine run_of ?_
  rcases rd_cases (tupD qD) sharesOf t with ⟨k, _, h2⟩ | ⟨a, _, _, _, h2⟩ <;> (simp only [h2] at e ⊢; simp -implicitDefEqProofs [D_read_shares, e])
theorem s_read_figures (t : Tx) (h : Ask t) (μ : Mu) : F_read_figures [.v (.str t)] μ = rdR (tupD bitsD) figOf t μ := by
  have e := s_only (good_tupD bitsD) figOf "figures_of" F_figures_of (by simp [List.lookup]) t h fun μ => s_figures_of _ (ask_len h) μ
  refine run_of ?_
  rcases rd_cases (tupD bitsD) figOf t with ⟨k, _, h2⟩ | ⟨a, _, _, _, h2⟩ <;> (simp only [h2] at e ⊢; simp -implicitDefEqProofs [D_read_figures, e])
theorem s_read_tosses (t : Tx) (h : Ask t) (μ : Mu) : F_read_tosses [.v (.str t)] μ = rdR bitsD tosOf t μ := by
  have e := s_only good_bitsD tosOf "tosses_of" F_tosses_of (by simp [List.lookup]) t h fun μ => s_tosses_of _ (ask_len h) μ
  refine run_of ?_
  rcases rd_cases bitsD tosOf t with ⟨k, _, h2⟩ | ⟨a, _, _, _, h2⟩ <;> (simp only [h2] at e ⊢; simp -implicitDefEqProofs [D_read_tosses, e])
theorem law_read0 (t : Tx) (h : Ask t) (b : Bool) (μ : Mu) : F__law_read [.v (.int 0), .v (.str t), .v (.bl b)] μ = .ok (rdD qD qOf t) μ := by
  have e := s_read_number t h
  refine run_of ?_
  rcases rd_cases qD qOf t with ⟨k, h1, h2⟩ | ⟨a, _, _, h1, h2⟩ <;> (simp only [h2] at e; rw [h1]; cases b <;> simp -implicitDefEqProofs [D__law_read, e, permute])
theorem law_read1 (t : Tx) (h : Ask t) (b : Bool) (μ : Mu) : F__law_read [.v (.int 1), .v (.str t), .v (.bl b)] μ = .ok (rdD (tupD qD) sharesOf t) μ := by
  have e := s_read_shares t h
  refine run_of ?_
  rcases rd_cases (tupD qD) sharesOf t with ⟨k, h1, h2⟩ | ⟨a, _, _, h1, h2⟩ <;> (simp only [h2] at e; rw [h1]; cases b <;> simp -implicitDefEqProofs [D__law_read, e, permute])
theorem law_read2 (t : Tx) (h : Ask t) (b : Bool) (μ : Mu) : F__law_read [.v (.int 2), .v (.str t), .v (.bl b)] μ = .ok (rdD (tupD bitsD) figOf t) μ := by
  have e := s_read_figures t h
  refine run_of ?_
  rcases rd_cases (tupD bitsD) figOf t with ⟨k, h1, h2⟩ | ⟨a, _, _, h1, h2⟩ <;> (simp only [h2] at e; rw [h1]; cases b <;> simp -implicitDefEqProofs [D__law_read, e, permute])
theorem law_read3 (t : Tx) (h : Ask t) (b : Bool) (μ : Mu) : F__law_read [.v (.int 3), .v (.str t), .v (.bl b)] μ = .ok (rdD bitsD tosOf t) μ := by
  have e := s_read_tosses t h
  refine run_of ?_
  rcases rd_cases bitsD tosOf t with ⟨k, h1, h2⟩ | ⟨a, _, _, h1, h2⟩ <;> (simp only [h2] at e; rw [h1]; cases b <;> simp -implicitDefEqProofs [D__law_read, e, permute])
theorem due0 (t : Tx) (h : Ask t) (μ : Mu) : F__law_due [.v (.int 0), .v (.str t)] μ = .ok (rdD qD qOf t) μ := by
  have e := s_one_line (fun a => okN_qD a) qOf "_law_part_in" F__law_part_in (by simp [List.lookup]) t h fun μ => s_part_in _ (by have := ask_len h; omega) μ
  refine run_of ?_
  simp -implicitDefEqProofs [D__law_due, e]
theorem due1 (t : Tx) (h : Ask t) (μ : Mu) : F__law_due [.v (.int 1), .v (.str t)] μ = .ok (rdD (tupD qD) sharesOf t) μ := by
  have e := s_one_line (fun a => okN_tupD (fun a => okN_qD a) a) sharesOf "_law_shares_in" F__law_shares_in (by simp [List.lookup]) t h fun μ => s_shares_in _ (ask_len h) h.2 μ
  refine run_of ?_
  simp -implicitDefEqProofs [D__law_due, e]
theorem due2 (t : Tx) (h : Ask t) (μ : Mu) : F__law_due [.v (.int 2), .v (.str t)] μ = .ok (rdD (tupD bitsD) figOf t) μ := by
  have e := s_one_line (fun a => okN_tupD (fun a => okN_bitsD a) a) figOf "_law_figures_in" F__law_figures_in (by simp [List.lookup]) t h fun μ => s_figures_in _ (ask_len h) μ
  refine run_of ?_
  simp -implicitDefEqProofs [D__law_due, e]
theorem due3 (t : Tx) (h : Ask t) (μ : Mu) : F__law_due [.v (.int 3), .v (.str t)] μ = .ok (rdD bitsD tosOf t) μ := by
  have e := s_one_line (fun a => okN_bitsD a) tosOf "_law_tosses_in" F__law_tosses_in (by simp [List.lookup]) t h fun μ => s_tosses_in _ (ask_len h) μ
  refine run_of ?_
  simp -implicitDefEqProofs [D__law_due, e]
/- showing -/
def shS (a : Nat × Nat) : Tx := shQ (a.1 : Int) a.2
def fS : D → D
  | .tup [.int p, .int q] => .str (shQ p q.toNat)
  | _ => .non
def fI : D → D
  | .int p => .str (intTx p)
  | _ => .non
theorem tl_map_len {α : Type} (sh : α → Tx) (as : List α) : as.length ≤ tl (as.map sh) := by
  have := tl_len (as.map sh)
  rwa [List.length_map] at this
theorem s_show_shares (as : List (Nat × Nat)) (hb : ∀ a ∈ as, BdQ a) (hl : tl (as.map shS) ≤ 1000000) (μ : Mu) : F_show_shares [.v (tupD qD as)] μ = .ok (.str (joinL [32] (as.map shS))) μ ∧ F__law_numbers_text [.v (tupD qD as)] μ = .ok (.str (joinL [32] (as.map shS))) μ := by
  have hj := join_ok 32 (as.map shS) (lt_SL hl)
  have hn := tl_map_len shS as
  have em : (as.map qD).map fS = (as.map shS).map D.str := by
    rw [List.map_map, List.map_map]
    refine List.map_congr_left fun a _ => ?_
    simp [fS, qD, shS]
  constructor
  · refine run_of ?_
    generalize hx : exs _ _ _ _ = o
    simp -implicitDefEqProofs [D_show_shares, tupD] at hx
    generalize hr : ev (.lc _ _ _ _ _) _ _ = r' at hx
    have hr := lc_o0 hr (xs := as.map qD) fS (by simp -implicitDefEqProofs) (by rw [List.length_map, SL_eq]; omega) (by
      intro x hx
      rw [List.mem_map] at hx
      obtain ⟨a, ha, rfl⟩ := hx
      have e := s_show_number (a.1 : Int) a.2 (by rw [Int.natAbs_natCast]; exact (hb a ha).1) (hb a ha).2.2
      refine ⟨_, by simp -implicitDefEqProofs; rfl, fun c => ?_⟩
      simp -implicitDefEqProofs [e, fS, qD])
    subst hr
    rw [em] at hx
    simp only [r_bind_ok, drs_cons, dr_v, drs_nil, Option.bind_some, f_2, hj, es_cons, es_nil] at hx
    simp -implicitDefEqProofs at hx
    subst hx
    simp -implicitDefEqProofs
  · refine run_of ?_
    generalize hx : exs _ _ _ _ = o
    simp -implicitDefEqProofs [D__law_numbers_text, tupD] at hx
    generalize hr : ev (.lc _ _ _ _ _) _ _ = r' at hx
    have hr := lc_o0 hr (xs := as.map qD) fS (by simp -implicitDefEqProofs) (by rw [List.length_map, SL_eq]; omega) (by
      intro x hx
      rw [List.mem_map] at hx
      obtain ⟨a, ha, rfl⟩ := hx
      have e := s_law_show (a.1 : Int) a.2 (by rw [Int.natAbs_natCast]; exact (hb a ha).1) (hb a ha).2.2
      refine ⟨_, by simp -implicitDefEqProofs; rfl, fun c => ?_⟩
      simp -implicitDefEqProofs [e, fS, qD])
    subst hr
    rw [em] at hx
    simp only [r_bind_ok, drs_cons, dr_v, drs_nil, Option.bind_some, f_2, hj, es_cons, es_nil] at hx
    simp -implicitDefEqProofs at hx
    subst hx
    simp -implicitDefEqProofs
theorem fI_map (as : List Nat) : (as.map iD).map fI = (as.map numTx).map D.str := by
  rw [List.map_map, List.map_map]
  refine List.map_congr_left fun a _ => ?_
  simp [fI, iD]
theorem bit_log {b : Nat} (h : b < 2) : b.log2 < 1920 := log_of10 (Nat.lt_trans h (by decide))
theorem s_joined (as : List Nat) (hb : ∀ b ∈ as, b < 2) (hl : as.length ≤ 1000000) (μ : Mu) : F_joined [.v (bitsD as)] μ = .ok (.str (shB as)) μ := by
  have hj := join_okE hb (lt_SL hl)
  refine run_of ?_
  generalize hx : exs _ _ _ _ = o
  simp -implicitDefEqProofs [D_joined, bitsD] at hx
  generalize hr : ev (.lc _ _ _ _ _) _ _ = r' at hx
  have hr := lc_o0 hr (xs := as.map iD) fI (by simp -implicitDefEqProofs) (by rw [List.length_map]; exact lt_SL hl) (by
    intro x hx
    rw [List.mem_map] at hx
    obtain ⟨a, ha, rfl⟩ := hx
    have e := bit_log (hb a ha)
    refine ⟨_, by simp -implicitDefEqProofs; rfl, fun c => ?_⟩
    simp -implicitDefEqProofs [e, fI, iD])
  subst hr
  rw [fI_map] at hx
  simp only [r_bind_ok, drs_cons, dr_v, drs_nil, Option.bind_some, f_2, hj, es_cons, es_nil] at hx
  simp -implicitDefEqProofs at hx
  subst hx
  simp -implicitDefEqProofs
theorem s_show_figures (as bs : List Nat) (ha : ∀ b ∈ as, b < 2) (hb : ∀ b ∈ bs, b < 2) (la : as.length ≤ 1000000) (lb : bs.length ≤ 1000000) (μ : Mu) : F_show_figures [.v (tupD bitsD [as, bs])] μ = .ok (.str (shB as ++ 40 :: (shB bs ++ [41]))) μ := by
  have t1 := s_joined as ha la
  have t2 := s_joined bs hb lb
  have l1 := shB_len as
  have l2 := shB_len bs
  have z1 : as.length + 1 ≤ SL := by rw [SL_eq]; omega
  have z2 : as.length + 1 + bs.length ≤ SL := by rw [SL_eq]; omega
  have z3 : as.length + (bs.length + 1) + 1 ≤ SL := by rw [SL_eq]; omega
  refine run_of ?_
  simp -implicitDefEqProofs [D_show_figures, tupD, t1, t2, l1, l2, z1, z2, z3]
theorem s_show_tosses (as : List Nat) (ha : ∀ b ∈ as, b < 2) (la : as.length ≤ 1000000) (μ : Mu) : F_show_tosses [.v (bitsD as)] μ = .ok (.str (if as = [] then [45] else shB as)) μ := by
  have t1 := s_joined as ha la
  refine run_of ?_
  by_cases h : as = []
  · subst h
    simp -implicitDefEqProofs [D_show_tosses, bitsD]
  · have h1 : 0 < as.length := List.length_pos_iff.mpr h
    have h2 : (0 : Int) < (as.length : Int) := by omega
    unfold bitsD at t1
    simp -implicitDefEqProofs [D_show_tosses, bitsD, h, h1, h2, t1]
end Tw

set_option linter.all false
set_option maxRecDepth 100000
/-! V4: things drawn. -/
namespace Tw
open Wp Lw
theorem tk' (l : List D) (cs : List Cell) (many : Int) (hl : Pot l) (hm : 0 < many) (hm2 : many ≤ 1000000000) :
    ∃ (r : Nat) (l' : List D), F__law_take [.c 0, .v (.int many)] (⟨false, .lst l⟩ :: cs) = .ok (.int r) (⟨false, .lst l'⟩ :: cs) ∧ (r : Int) < many ∧ Pot l' := by
  obtain ⟨r, l', e, h1, h2, h3⟩ := s_take 48271 613 69621 30323 19 5 (by decide) (by decide) (by decide) (by decide) (⟨false, .lst l⟩ :: cs) 0 l many rfl hl hm (Nat.lt_of_lt_of_le (show many.natAbs < 2 ^ 40 by omega) (Nat.pow_le_pow_right (by omega) (by omega)))
  refine ⟨r.toNat, l', ?_, by omega, h3⟩
  rw [Int.toNat_of_nonneg h1]
  exact e
theorem lc_draw2 (P : D → Prop) (g : I) (j n : Nat) (e : E) (ρ : Env) (μ : Mu) (hj : j < ρ.length) (hn : n ≤ 1000000) (l : List D) (cs : List Cell) (hl : Pot l)
    (hg : evI g ρ μ = .ok (rngL 0 n) (⟨false, .lst l⟩ :: cs))
    (hE : ∀ x l cs, Pot l → ∃ d l', (ev e (ρ.set j (some (.v x))) (⟨false, .lst l⟩ :: cs)).bind toV = .ok d (⟨false, .lst l'⟩ :: cs) ∧ P d ∧ Pot l') :
    ∃ ds l', ev (.lc g (.n j) [] e [j]) ρ μ = .ok (.v (.lst ds)) (⟨false, .lst l'⟩ :: cs) ∧ (∀ d ∈ ds, P d) ∧ ds.length = n ∧ Pot l' := by
  obtain ⟨ds, M', e1, ⟨h1, l', rfl, h2⟩, h4⟩ := ev_st (t := .n j) (e := e) (own := [j]) (fun ds M => (∀ d ∈ ds, P d) ∧ ∃ l', M = ⟨false, .lst l'⟩ :: cs ∧ Pot l') (by
    rintro ds M ⟨_, l', rfl, _⟩
    rw [List.length_cons, List.length_cons]) ⟨fun d hd => absurd hd List.not_mem_nil, l, rfl, hl⟩ hg (rng_SL hn) (by
    rintro x hx ds M ⟨h1, l', rfl, h2⟩
    obtain ⟨d, l2, e1, hp, hl2⟩ := hE x l' (cs ++ [⟨false, .lst ds⟩]) h2
    refine ⟨ρ.set j (some (.v x)), d, ⟨false, .lst l2⟩ :: cs, ?_, e1, ?_, l2, rfl, hl2⟩
    · simp -implicitDefEqProofs [hj]
    · intro y hy
      rw [List.mem_append, List.mem_singleton] at hy
      rcases hy with hy | rfl
      · exact h1 y hy
      · exact hp)
  exact ⟨ds, l', e1, h1, by rw [h4, rngL_len], h2⟩
theorem tl_le {α : Type} {sh : α → Tx} {k : Nat} : ∀ {as : List α}, (∀ a ∈ as, (sh a).length ≤ k) → tl (as.map sh) ≤ (k + 1) * as.length
  | [], _ => by simp [tl]
  | a :: as, h => by
    have h1 := h a List.mem_cons_self
    have h2 := tl_le (as := as) fun b hb => h b (List.mem_cons_of_mem _ hb)
    rw [List.map_cons, tl_cons, List.length_cons, Nat.mul_add, Nat.mul_one]; omega
theorem intsOf_iD : ∀ ws : List Nat, intsOf (ws.map iD) = some (ws.map fun (w : Nat) => (w : Int))
  | [] => rfl
  | w :: ws => by rw [List.map_cons, iD, intsOf, intsOf_iD ws]; rfl
theorem sum_iD : ∀ ws : List Nat, (ws.map fun (w : Nat) => (w : Int)).sum = ((ws.sum : Nat) : Int)
  | [] => rfl
  | w :: ws => by rw [List.map_cons, List.sum_cons, sum_iD ws, List.sum_cons, Int.natCast_add]
def fLow (s : Nat) : D → D
  | .int p => qD (lowN p.toNat s)
  | _ => .non
theorem sum_le {k : Nat} : ∀ {ws : List Nat}, (∀ w ∈ ws, w ≤ k) → ws.sum ≤ k * ws.length
  | [], _ => by simp
  | w :: ws, h => by
    have h1 := h w List.mem_cons_self
    have h2 := sum_le (ws := ws) fun b hb => h b (List.mem_cons_of_mem _ hb)
    rw [List.sum_cons, List.length_cons, Nat.mul_add, Nat.mul_one]; omega
theorem le_sum : ∀ {ws : List Nat} {w : Nat}, w ∈ ws → w ≤ ws.sum
  | [], w, h => by simp at h
  | x :: ws, w, h => by
    rw [List.sum_cons]
    rcases List.mem_cons.mp h with rfl | h
    · omega
    · have := le_sum h; omega
theorem s_great (l : List D) (hl : Pot l) (cs : List Cell) : ∃ (ws : List Nat) (l' : List D), F__law_great_shares [.c 0] (⟨false, .lst l⟩ :: cs) = .ok (tupD qD (ws.map fun w => lowN w ws.sum)) (⟨false, .lst l'⟩ :: cs) ∧ (∀ w ∈ ws, 1 ≤ w ∧ w ≤ 1000000000) ∧ ws ≠ [] ∧ ws.length ≤ 40 ∧ Pot l' := by
  have hlen : ∀ l, (⟨false, .lst l⟩ :: cs : Mu).take (cs.length + 1) = ⟨false, .lst l⟩ :: cs := fun l => List.take_of_length_le (by simp)
  obtain ⟨k, l1, e1, b1, hl1⟩ := tk l cs 2 hl (by omega) (by omega)
  obtain ⟨s, hs, hs1, ha⟩ : ∃ n : Nat, n ≤ 40 ∧ 1 ≤ n ∧ ([D.int 6, D.int 40])[k]? = some (.int (n : Int)) := by
    have hk : k = 0 ∨ k = 1 := by omega
    rcases hk with rfl | rfl
    · exact ⟨6, by omega, by omega, rfl⟩
    · exact ⟨40, by omega, by omega, rfl⟩
  obtain ⟨m, l2, e2, b2, hl2⟩ := tk l1 cs (s : Int) hl1 (by omega) (by omega)
  have hr : rngOf [.int (1 + (m : Int))] = some (rngL 0 (1 + m)) := by
    have := rngOf_nat (1 + m) (by omega)
    rwa [show ((1 + m : Nat) : Int) = 1 + (m : Int) by omega] at this
  obtain ⟨ds, l3, e3, p1, n1, hl3⟩ := lc_draw2 (fun d => ∃ w : Nat, d = iD w ∧ 1 ≤ w ∧ w ≤ 1000000000) (.rng [(.prim .add [(.k (.int 1)), (.call "_law_take" F__law_take [(.var 0), (.prim .idx [(.lst [(.k (.int 6)), (.k (.int 40))]), (.call "_law_take" F__law_take [(.var 0), (.k (.int 2))])])])])]) 2 (1 + m)
    (.prim .add [(.k (.int 1)), (.call "_law_take" F__law_take [(.var 0), (.prim .idx [(.lst [(.k (.int 9)), (.k (.int 1000)), (.prim .pow [(.k (.int 10)), (.k (.int 9))])]), (.call "_law_take" F__law_take [(.var 0), (.k (.int 3))])])])]) [some (.c 0), none, none, none] (⟨false, .lst l⟩ :: cs) (by simp) (by omega) l2 cs hl2 (by simp -implicitDefEqProofs [e1, ha, e2, hr]) (by
    intro x l cs hl
    obtain ⟨k, l1, e1, b1, hl1⟩ := tk l cs 3 hl (by omega) (by omega)
    obtain ⟨s, hs, hs1, ha⟩ : ∃ n : Nat, n ≤ 1000000000 ∧ 1 ≤ n ∧ ([D.int 9, D.int 1000, D.int 1000000000])[k]? = some (.int (n : Int)) := by
      have hk : k = 0 ∨ k = 1 ∨ k = 2 := by omega
      rcases hk with rfl | rfl | rfl
      · exact ⟨9, by omega, by omega, rfl⟩
      · exact ⟨1000, by omega, by omega, rfl⟩
      · exact ⟨1000000000, by omega, by omega, rfl⟩
    obtain ⟨m, l2, e2, b2, hl2⟩ := tk' l1 cs (s : Int) hl1 (by omega) (by omega)
    exact ⟨iD (1 + m), l2, by simp -implicitDefEqProofs [e1, ha, e2, iD], ⟨1 + m, rfl, by omega, by omega⟩, hl2⟩)
  obtain ⟨ws, rfl, q1, k1⟩ := map_of p1
  rw [List.length_map] at n1
  have hws : ws ≠ [] := by rintro rfl; simp at n1; omega
  have hsum := sum_le fun w hw => (q1 w hw).2
  have hmul : 1000000000 * ws.length ≤ 1000000000 * 40 := Nat.mul_le_mul_left _ (by omega)
  have hS30 : ws.sum < 2 ^ 100 := Nat.lt_of_le_of_lt (Nat.le_trans hsum hmul) (by decide)
  have hpos : 0 < ws.sum := by
    obtain ⟨w, hw⟩ := List.exists_mem_of_ne_nil _ hws
    have := le_sum hw
    have := (q1 w hw).1
    omega
  have hi := intsOf_iD ws
  have hsi := sum_iD ws
  refine ⟨ws, l3, run_of ?_, q1, hws, by omega, hl3⟩
  generalize hx : exs _ _ _ _ = o
  simp -implicitDefEqProofs [D__law_great_shares, e3] at hx
  generalize hr : ev (.lc _ _ _ _ _) _ _ = r' at hx
  have hr := lc_o0 hr (xs := ws.map iD) (fLow ws.sum) (by simp -implicitDefEqProofs) (by rw [List.length_map]; exact lt_SL (by omega)) (by
    intro x hx
    rw [List.mem_map] at hx
    obtain ⟨w, hw, rfl⟩ := hx
    have hw2 : w < 2 ^ 100 := Nat.lt_of_le_of_lt (le_sum hw) hS30
    have e := s_law_low_nat w ws.sum 100 100 hpos hw2 hS30 (by omega) (by omega)
    refine ⟨_, by simp -implicitDefEqProofs; rfl, fun c => ?_⟩
    simp -implicitDefEqProofs [hi, hsi, -List.map_map]
    have e' : F__law_low [.v (iD w), .v (.int (ws.sum : Int))] (⟨false, .lst l3⟩ :: (cs ++ [c])) = .ok (fLow ws.sum (iD w)) (⟨false, .lst l3⟩ :: (cs ++ [c])) := by
      rw [iD, e]
      simp [fLow, qD, lowN]
    rw [e']; rfl)
  subst hr
  rw [show (ws.map iD).map (fLow ws.sum) = (ws.map fun w => lowN w ws.sum).map qD by
    rw [List.map_map, List.map_map]
    refine List.map_congr_left fun a _ => ?_
    simp [fLow, iD]] at hx
  simp -implicitDefEqProofs [-List.map_map] at hx
  subst hx
  simp -implicitDefEqProofs [-List.map_map, hlen, tupD]
theorem bdS {x : Nat × Nat} (h : BdN x) : BdQ x := ⟨h.1, h.2.2.1, h.2.1⟩
def thB : List S := D__law_thing.body
theorem thing_run (s : Int) (l l' : List D) (d : D) (t : Tx) (h : exs 1 thB [some (.c 0), some (.v (.int s)), none, none, none] [⟨false, .lst l⟩] = .ret (.tup [d, .str t]) [⟨false, .lst l'⟩]) :
    F__law_thing [.c 0, .v (.int s)] [⟨false, .lst l⟩] = .ok (.tup [d, .str t]) [⟨false, .lst l'⟩] := by
  refine run_of ?_
  have z : ([⟨false, .lst l⟩] : Mu) ++ List.replicate D__law_thing.cells ⟨false, .dead⟩ = [⟨false, .lst l⟩] := rfl
  rw [z]
  show fin 1 (exs 1 thB [some (.c 0), some (.v (.int s)), none, none, none] [⟨false, .lst l⟩]) = _
  rw [h]; rfl
theorem thing0 (l : List D) (hl : Pot l) : ∃ (x : Nat × Nat) (l' : List D), F__law_thing [.c 0, .v (.int 0)] [⟨false, .lst l⟩] = .ok (.tup [qD x, .str (shS x)]) [⟨false, .lst l'⟩] ∧ BdN x ∧ Pot l' := by
  obtain ⟨x, l1, e1, b1, hl1⟩ := s_big_number l hl []
  have e2 := s_law_show (x.1 : Int) x.2 (by rw [Int.natAbs_natCast]; exact b1.1) b1.2.1
  refine ⟨x, l1, thing_run _ _ _ _ _ ?_, b1, hl1⟩
  unfold qD at e1 ⊢
  simp -implicitDefEqProofs [thB, D__law_thing, e1, e2, shS]
theorem thing1 (l : List D) (hl : Pot l) : ∃ (ws : List Nat) (l' : List D), F__law_thing [.c 0, .v (.int 1)] [⟨false, .lst l⟩] = .ok (.tup [tupD qD (ws.map fun w => lowN w ws.sum), .str (joinL [32] ((ws.map fun w => lowN w ws.sum).map shS))]) [⟨false, .lst l'⟩] ∧ (∀ w ∈ ws, 1 ≤ w ∧ w ≤ 1000000000) ∧ ws ≠ [] ∧ ws.length ≤ 40 ∧ (∀ x ∈ ws.map fun w => lowN w ws.sum, BdN x) ∧ Pot l' := by
  obtain ⟨ws, l1, e1, q1, hws, hl40, hl1⟩ := s_great l hl []
  have hsum := sum_le fun w hw => (q1 w hw).2
  have hmul : 1000000000 * ws.length ≤ 1000000000 * 40 := Nat.mul_le_mul_left _ (by omega)
  have hS30 : ws.sum < 10 ^ 30 := Nat.lt_of_le_of_lt (Nat.le_trans hsum hmul) (by decide)
  have hpos : 0 < ws.sum := by
    obtain ⟨w, hw⟩ := List.exists_mem_of_ne_nil _ hws
    have := le_sum hw
    have := (q1 w hw).1
    omega
  have hb : ∀ x ∈ ws.map fun w => lowN w ws.sum, BdN x := fun x hx => by
    rw [List.mem_map] at hx
    obtain ⟨w, hw, rfl⟩ := hx
    exact bdN_of (Nat.lt_of_le_of_lt (le_sum hw) hS30) hS30 hpos
  have hlen : (ws.map fun w => lowN w ws.sum).length ≤ 40 := by rw [List.length_map]; exact hl40
  generalize has : ws.map (fun w => lowN w ws.sum) = as at *
  have c1 : tl (as.map shS) ≤ 63 * as.length := tl_le fun a ha => shQ_len (by rw [Int.natAbs_natCast]; exact (hb a ha).1) (hb a ha).2.1
  have t1 := fun μ => (s_show_shares as (fun a ha => bdS (hb a ha)) (by omega) μ).2
  refine ⟨ws, l1, thing_run _ _ _ _ _ ?_, q1, hws, hl40, by rw [has]; exact hb, hl1⟩
  rw [has]
  simp -implicitDefEqProofs [thB, D__law_thing, e1, t1]
theorem bits_drawn (ρ : Env) (j : Nat) (h0 : j ≠ 0) (hρ : ρ[0]? = some (some (.c 0))) : ∀ (x : D) (l : List D) (cs : List Cell), Pot l → ∃ d l', (ev (.call "_law_take" F__law_take [.var 0, .k (.int 2)]) (ρ.set j (some (.v x))) (⟨false, .lst l⟩ :: cs)).bind toV = .ok d (⟨false, .lst l'⟩ :: cs) ∧ (∃ b : Nat, d = iD b ∧ b < 2) ∧ Pot l' := by
  intro x l cs hl
  obtain ⟨k, l1, e1, b1, hl1⟩ := tk l cs 2 hl (by omega) (by omega)
  have hs : (ρ.set j (some (.v x)))[0]? = some (some (.c 0)) := by rw [List.getElem?_set_ne h0]; exact hρ
  exact ⟨iD k, l1, by simp -implicitDefEqProofs [hs, e1, iD], ⟨k, rfl, by omega⟩, hl1⟩
theorem lc_bits (g : E) (as : List Nat) (hq : ∀ a ∈ as, a < 2) (hl : as.length ≤ 1000000) (ρ : Env) (h4 : 4 < ρ.length) (μ : Mu) (hg : ev g ρ μ = .ok (.v (.tup (as.map iD))) μ) : ev (.lc (.of g) (.n 4) [] (.prim .str [.var 4]) [4]) ρ μ = .ok (.v (.lst ((as.map numTx).map D.str))) μ := by
  rw [← fI_map]
  refine ev_lc0 fI (by simp -implicitDefEqProofs [hg]) (by rw [List.length_map]; exact lt_SL hl) ?_
  intro x hx
  rw [List.mem_map] at hx
  obtain ⟨a, ha, rfl⟩ := hx
  have e := bit_log (hq a ha)
  refine ⟨ρ.set 4 (some (.v (iD a))), by simp -implicitDefEqProofs [h4], fun c => ?_⟩
  simp -implicitDefEqProofs [h4, e, fI, iD]
theorem ne_nil (as : List Nat) : P.f2 .ne (.tup (as.map iD)) (.tup []) = some (.bl (!as.isEmpty)) := by
  have ok : okD (.tup (as.map iD)) = true := okN_tupD (fun a => okN_iD a) as
  have ok0 : okD (.tup []) = true := rfl
  show (if okD (.tup (as.map iD)) && okD (.tup []) then some (D.bl (!D.eqv (.tup (as.map iD)) (.tup []))) else none) = _
  rw [ok, ok0, D.eqv, eqvs_nil]
  cases as <;> rfl
theorem thing2 (l : List D) (hl : Pot l) : ∃ (as bs : List Nat) (l' : List D), F__law_thing [.c 0, .v (.int 2)] [⟨false, .lst l⟩] = .ok (.tup [tupD bitsD [as, bs], .str (shB as ++ 40 :: (shB bs ++ [41]))]) [⟨false, .lst l'⟩] ∧ (∀ b ∈ as, b < 2) ∧ (∀ b ∈ bs, b < 2) ∧ bs ≠ [] ∧ as.length ≤ 200 ∧ bs.length ≤ 200 ∧ Pot l' := by
  obtain ⟨m, l1, e1, b1, hl1⟩ := tk l [] 99 hl (by omega) (by omega)
  have hr : rngOf [.int (m : Int)] = some (rngL 0 m) := rngOf_nat m (by omega)
  obtain ⟨ds, l2, e2, p1, n1, hl2⟩ := lc_draw2 (fun d => ∃ b : Nat, d = iD b ∧ b < 2) (.rng [(.call "_law_take" F__law_take [(.var 0), (.k (.int 99))])]) 3 m (.call "_law_take" F__law_take [(.var 0), (.k (.int 2))]) [some (.c 0), some (.v (.int 2)), none, none, none] [⟨false, .lst l⟩] (by simp) (by omega) l1 [] hl1 (by simp -implicitDefEqProofs [e1, hr]) (bits_drawn _ 3 (by omega) (by simp))
  obtain ⟨as, rfl, q1, k1⟩ := map_of p1
  rw [List.length_map] at n1
  obtain ⟨m2, l3, e3, b3, hl3⟩ := tk l2 [] 100 hl2 (by omega) (by omega)
  have hr2 : rngOf [.int (1 + (m2 : Int))] = some (rngL 0 (1 + m2)) := by
    have := rngOf_nat (1 + m2) (by omega)
    rwa [show ((1 + m2 : Nat) : Int) = 1 + (m2 : Int) by omega] at this
  obtain ⟨ds, l4, e4, p2, n2, hl4⟩ := lc_draw2 (fun d => ∃ b : Nat, d = iD b ∧ b < 2) (.rng [(.prim .add [(.k (.int 1)), (.call "_law_take" F__law_take [(.var 0), (.k (.int 100))])])]) 3 (1 + m2) (.call "_law_take" F__law_take [(.var 0), (.k (.int 2))]) [some (.c 0), some (.v (.int 2)), none, none, none] [⟨false, .lst l2⟩] (by simp) (by omega) l3 [] hl3 (by simp -implicitDefEqProofs [e3, hr2]) (bits_drawn _ 3 (by omega) (by simp))
  obtain ⟨bs, rfl, q2, k2⟩ := map_of p2
  rw [List.length_map] at n2
  have q0 : ∀ b ∈ 0 :: as, b < 2 := fun b hb => by
    rcases List.mem_cons.mp hb with rfl | hb
    · omega
    · exact q1 b hb
  have t1 := lc_bits (.prim .idx [.var 2, .k (.int 0)]) (0 :: as) q0 (by simp; omega) [some (.c 0), some (.v (.int 2)), some (.v (.tup [.tup (.int 0 :: as.map iD), .tup (bs.map iD)])), none, none] (by simp) [⟨false, .lst l4⟩] (by simp -implicitDefEqProofs [iD])
  have t2 := lc_bits (.prim .idx [.var 2, .k (.int 1)]) bs q2 (by omega) [some (.c 0), some (.v (.int 2)), some (.v (.tup [.tup (.int 0 :: as.map iD), .tup (bs.map iD)])), none, none] (by simp) [⟨false, .lst l4⟩] (by simp -implicitDefEqProofs)
  have j1 := join_okE q0 (lt_SL (by simp; omega))
  have j2 := join_okE q2 (lt_SL (by omega))
  have l1' := shB_len (0 :: as)
  have l2' := shB_len bs
  rw [List.length_cons] at l1'
  have z0 : as.length + 1 ≤ SL := by rw [SL_eq]; omega
  have z0' : 1 + as.length ≤ SL := by rw [SL_eq]; omega
  generalize hX : ((0 :: as).map numTx).map D.str = X at t1 j1
  generalize hY : (bs.map numTx).map D.str = Y at t2 j2
  generalize hs1 : shB (0 :: as) = S1 at *
  generalize hs2 : shB bs = S2 at *
  have z1 : S1.length + 1 ≤ SL := by rw [SL_eq]; omega
  have z2 : S1.length + 1 + S2.length ≤ SL := by rw [SL_eq]; omega
  have z3 : S1.length + (S2.length + 1) + 1 ≤ SL := by rw [SL_eq]; omega
  have z4 : S1.length + 1 + S2.length + 1 ≤ SL := by rw [SL_eq]; omega
  refine ⟨0 :: as, bs, l4, thing_run _ _ _ _ _ ?_, q0, q2, by rintro rfl; simp at n2; omega, by simp; omega, by omega, hl4⟩
  rw [hs1, hs2]
  simp -implicitDefEqProofs [thB, D__law_thing, e2, e4, t1, t2, j1, j2, z0, z0', z1, z2, z3, z4, -f_join]
  simp [tupD, bitsD, iD]
theorem thing3 (l : List D) (hl : Pot l) : ∃ (as : List Nat) (l' : List D), F__law_thing [.c 0, .v (.int 3)] [⟨false, .lst l⟩] = .ok (.tup [bitsD as, .str (if as = [] then [45] else shB as)]) [⟨false, .lst l'⟩] ∧ (∀ b ∈ as, b < 2) ∧ as.length ≤ 400 ∧ Pot l' := by
  obtain ⟨m, l1, e1, b1, hl1⟩ := tk l [] 301 hl (by omega) (by omega)
  have hr : rngOf [.int (m : Int)] = some (rngL 0 m) := rngOf_nat m (by omega)
  obtain ⟨ds, l2, e2, p1, n1, hl2⟩ := lc_draw2 (fun d => ∃ b : Nat, d = iD b ∧ b < 2) (.rng [(.call "_law_take" F__law_take [(.var 0), (.k (.int 301))])]) 3 m (.call "_law_take" F__law_take [(.var 0), (.k (.int 2))]) [some (.c 0), some (.v (.int 3)), none, none, none] [⟨false, .lst l⟩] (by simp) (by omega) l1 [] hl1 (by simp -implicitDefEqProofs [e1, hr]) (bits_drawn _ 3 (by omega) (by simp))
  obtain ⟨as, rfl, q1, k1⟩ := map_of p1
  rw [List.length_map] at n1
  have t1 := lc_bits (.var 2) as q1 (by omega) [some (.c 0), some (.v (.int 3)), some (.v (.tup (as.map iD))), none, none] (by simp) [⟨false, .lst l2⟩] (by simp -implicitDefEqProofs)
  have j1 := join_okE q1 (lt_SL (by omega))
  have hn := ne_nil as
  generalize hX : (as.map numTx).map D.str = X at t1 j1
  refine ⟨as, l2, thing_run _ _ _ _ _ ?_, q1, by omega, hl2⟩
  by_cases h : as = []
  · subst h
    have hn0 : P.f2 .ne (.tup []) (.tup []) = some (.bl false) := ne_nil []
    simp -implicitDefEqProofs [thB, D__law_thing, e2, hn0]
    simp [bitsD]
  · have h' : as.isEmpty = false := by simpa using h
    rw [h'] at hn
    simp -implicitDefEqProofs [thB, D__law_thing, e2, hn, t1, j1, -f_join]
    simp [bitsD, h]
end Tw

set_option linter.all false
set_option maxRecDepth 100000
/-! V5: the law of k60. -/
namespace Tw
open Wp Lw
theorem plI (n : Nat) (i : Int) : D.plN n (.int i) = true := by cases n <;> rw [D.plN]
theorem plNo (n : Nat) : D.plN n .non = true := by cases n <;> rw [D.plN]
theorem plB (n : Nat) (b : Bool) : D.plN n (.bl b) = true := by cases n <;> rw [D.plN]
theorem plS (n : Nat) (s : Tx) : D.plN n (.str s) = true := by cases n <;> rw [D.plN]
theorem pl_tup {α : Type} {n : Nat} {f : α → D} {as : List α} (hl : as.length ≤ 1000000) (hf : ∀ a ∈ as, D.plN n (f a) = true) : D.plN (n + 1) (tupD f as) = true := by
  rw [tupD, D.plN, plNs_all fun d hd => by
    rw [List.mem_map] at hd
    obtain ⟨a, ha, rfl⟩ := hd
    exact hf a ha]
  simpa using hl
theorem pl_qD (n : Nat) (a : Nat × Nat) : D.plN (n + 1) (qD a) = true := by
  rw [qD, D.plN]; simp [D.plNs, plI]
theorem pl_bits {n : Nat} {as : List Nat} (hl : as.length ≤ 1000000) : D.plN (n + 1) (bitsD as) = true := pl_tup hl fun a _ => plI _ _
structure SortOK {α : Type} (s : Int) (f : α → D) (rd : Tx → Option α) : Prop where
  due : ∀ t : Tx, Ask t → ∀ μ, F__law_due [.v (.int s), .v (.str t)] μ = .ok (rdD f rd t) μ
  read : ∀ t : Tx, Ask t → ∀ b μ, F__law_read [.v (.int s), .v (.str t), .v (.bl b)] μ = .ok (rdD f rd t) μ
  shown : ∀ (t : Tx) (a : α), t.length ≤ 900000 → t.count 32 ≤ 80 → rd t = some a → ∀ μ, F__law_shown [.v (.int s), .v (f a)] μ = .ok (.str t) μ
  pl : ∀ (t : Tx) (a : α), t.length ≤ 900000 → t.count 32 ≤ 80 → rd t = some a → D.plN 10 (f a) = true
  cond : ∀ (t : Tx) (a : α), rd t = some a → s ≠ 2 ∨ s = 2 ∧ ∃ x y b, f a = .tup [.tup x, y] ∧ P.f2 .eq (.tup (x.take 1)) (.tup [.int 0]) = some (.bl b)
  thing : ∀ l, Pot l → ∃ (a : α) (t : Tx) (l' : List D), F__law_thing [.c 0, .v (.int s)] [⟨false, .lst l⟩] = .ok (.tup [f a, .str t]) [⟨false, .lst l'⟩] ∧ rd t = some a ∧ more t = false ∧ t.length ≤ 10000 ∧ t.count 32 ≤ 39 ∧ Pot l'
theorem not_shS {x : Nat × Nat} {c : Nat} (h : digit c = false) (h1 : c ≠ 47) : c ∉ shS x := by
  unfold shS shQ
  rw [intTx_nat]
  split
  · exact not_dig h
  · rw [List.mem_append, List.mem_cons, not_or, not_or]
    exact ⟨not_dig h, h1, not_dig h⟩
theorem join_not {c : Nat} (hc : c ≠ 32) : ∀ {ws : List Tx}, (∀ w ∈ ws, c ∉ w) → c ∉ joinL [32] ws
  | [], _ => by simp [joinL]
  | [w], h => by rw [joinL]; exact h w (by simp)
  | w :: v :: ws, h => by
    rw [joinL, List.mem_append, List.mem_append, not_or, not_or]
    exact ⟨⟨h w (by simp), by simpa using hc⟩, join_not hc fun u hu => h u (List.mem_cons_of_mem _ hu)⟩
theorem q_sh {x : Nat × Nat} (h : BdN x) : qOf (shS x) = some x := q_show h.1 h.2.1 h.2.2.1 h.2.2.2
theorem sort0 : SortOK 0 qD qOf where
  due := due0
  read := law_read0
  shown := fun t x h _ hr μ => by
    obtain ⟨e1, b1, b2, b3, b4⟩ := q_some hr
    have e := s_show_number (x.1 : Int) x.2 (by rw [Int.natAbs_natCast]; exact b1) b3
    rw [e1] at e
    refine run_of ?_
    unfold qD
    simp -implicitDefEqProofs [D__law_shown, e]
  pl := fun t x h _ hr => pl_qD _ x
  cond := fun t x hr => .inl (by decide)
  thing := fun l hl => by
    obtain ⟨x, l', e, h, hl'⟩ := thing0 l hl
    have := shQ_len (p := (x.1 : Int)) (q := x.2) (by rw [Int.natAbs_natCast]; exact h.1) h.2.1
    refine ⟨x, _, l', e, q_sh h, more_of (not_shS rfl (by decide)), by unfold shS; omega, ?_, hl'⟩
    rw [List.count_eq_zero.mpr (not_shS rfl (by decide))]
    omega
theorem shares_some {t : Tx} {as : List (Nat × Nat)} (h : sharesOf t = some as) : joinL [32] (as.map shS) = t ∧ (∀ x ∈ as, BdQ x) := by
  unfold sharesOf at h
  rw [Option.bind_eq_some_iff] at h
  obtain ⟨l, hl, h⟩ := h
  split at h
  · have h := Option.some.inj h
    subst h
    refine ⟨words_some (fun w a hw => (q_some hw).1) 32 hl, fun x hx => ?_⟩
    obtain ⟨w, hw⟩ := (words_all hl).1 x hx
    obtain ⟨_, b1, b2, b3, _⟩ := q_some hw
    exact ⟨b1, b2, b3⟩
  · simp at h
theorem tl_of {ws : List Tx} {t : Tx} (h : joinL [32] ws = t) : tl ws ≤ t.length + 1 := by
  have := join_len' 32 ws
  rwa [h] at this
theorem sort1 : SortOK 1 (tupD qD) sharesOf where
  due := due1
  read := law_read1
  shown := fun t as h _ hr μ => by
    obtain ⟨j, b⟩ := shares_some hr
    have l1 := tl_of j
    have e := fun μ => (s_show_shares as b (by omega) μ).1
    rw [j] at e
    refine run_of ?_
    simp -implicitDefEqProofs [D__law_shown, e]
  pl := fun t as h _ hr => by
    have l1 := tl_of (shares_some hr).1
    have n1 := tl_map_len shS as
    exact pl_tup (by omega) fun a _ => pl_qD _ a
  cond := fun t x hr => .inl (by decide)
  thing := fun l hl => by
    obtain ⟨ws, l', e, h1, h2, h3, h4, hl'⟩ := thing1 l hl
    have hpos : 0 < ws.sum := by
      obtain ⟨w, hw⟩ := List.exists_mem_of_ne_nil _ h2
      have := le_sum hw
      have := (h1 w hw).1
      omega
    have hone := sum_one hpos
    have hall : (ws.map fun w => lowN w ws.sum).all pos = true := by
      rw [List.all_eq_true]
      intro x hx
      rw [List.mem_map] at hx
      obtain ⟨w, hw, rfl⟩ := hx
      have hw1 := (h1 w hw).1
      unfold pos lowN
      rw [decide_eq_true_eq]
      exact Nat.div_pos (Nat.gcd_le_left _ (by omega)) (Nat.gcd_pos_of_pos_left _ (by omega))
    have hne : (ws.map fun w => lowN w ws.sum) ≠ [] := by simpa using h2
    have hlen : (ws.map fun w => lowN w ws.sum).length ≤ 40 := by rw [List.length_map]; exact h3
    generalize ws.map (fun w => lowN w ws.sum) = as at *
    have c1 : tl (as.map shS) ≤ 63 * as.length := tl_le fun a ha => shQ_len (by rw [Int.natAbs_natCast]; exact (h4 a ha).1) (h4 a ha).2.1
    have j1 := join_len 32 (as.map shS)
    have hw : allO ((spl [32] 0 [] (joinL [32] (as.map shS))).map qOf) = some as := words_show 32 hne fun a ha => ⟨q_sh (h4 a ha), not_shS rfl (by decide)⟩
    have hr : sharesOf (joinL [32] (as.map shS)) = some as := by
      unfold sharesOf
      rw [hw, Option.bind_some, if_pos]
      rw [hall, hone]; rfl
    refine ⟨as, _, l', e, hr, more_of ?_, by omega, ?_, hl'⟩
    · exact join_not (by decide) fun w hw => by
        rw [List.mem_map] at hw
        obtain ⟨a, _, rfl⟩ := hw
        exact not_shS rfl (by decide)
    · have hc := join_cnt 32 32 (as.map shS)
      rw [cs_zero (fun w hw => by
        rw [List.mem_map] at hw
        obtain ⟨a, _, rfl⟩ := hw
        exact not_shS rfl (by decide)), if_pos rfl, List.length_map] at hc
      omega
theorem fig_some {w : Tx} {l : List (List Nat)} (h : figOf w = some l) : ∃ as bs, l = [as, bs] ∧ w = shB as ++ 40 :: (shB bs ++ [41]) ∧ (∀ b ∈ as, b < 2) ∧ (∀ b ∈ bs, b < 2) := by
  unfold figOf at h
  cases hp : par [40] [] w with
  | none => rw [hp] at h; simp at h
  | some ab =>
    obtain ⟨a, r⟩ := ab
    rw [hp] at h
    simp only at h
    split at h
    · rename_i hc
      have := allO_some h
      have hw := par_some _ hp
      have hr := ends_some hc.1
      match l, this with
      | [x, y], this =>
        simp at this
        obtain ⟨e1, q1⟩ := bits_some this.1
        obtain ⟨e2, q2⟩ := bits_some this.2
        refine ⟨x, y, rfl, ?_, q1, q2⟩
        rw [e1, e2, ← hr]
        simpa using hw
      | [], this => simp at this
      | [x], this => simp at this
      | x :: y :: z :: l, this => simp at this
    · simp at h
theorem fig_show {as bs : List Nat} (ha : ∀ b ∈ as, b < 2) (hb : ∀ b ∈ bs, b < 2) (h0 : bs ≠ []) : figOf (shB as ++ 40 :: (shB bs ++ [41])) = some [as, bs] := by
  unfold figOf
  rw [par_word 40 _ _ _ (shB_not ha (by decide) (by decide))]
  have e1 : ends (shB bs ++ [41]) = true := by
    unfold ends
    rw [List.length_append, List.length_singleton, Nat.add_sub_cancel, List.drop_left]; rfl
  have e2 : 2 ≤ (shB bs ++ [41]).length := by
    have := List.length_pos_iff.mpr h0
    rw [List.length_append, shB_len, List.length_singleton]; omega
  simp only [List.nil_append]
  rw [if_pos ⟨e1, e2⟩, List.dropLast_concat, bits_show ha, bits_show hb]; rfl
theorem sort2 : SortOK 2 (tupD bitsD) figOf where
  due := due2
  read := law_read2
  shown := fun t l h _ hr μ => by
    obtain ⟨as, bs, rfl, rfl, h1, h2⟩ := fig_some hr
    simp only [List.length_append, List.length_cons, shB_len] at h
    have e := s_show_figures as bs h1 h2 (by omega) (by omega)
    refine run_of ?_
    simp -implicitDefEqProofs [D__law_shown, e]
  pl := fun t l h _ hr => by
    obtain ⟨as, bs, rfl, rfl, h1, h2⟩ := fig_some hr
    simp only [List.length_append, List.length_cons, shB_len] at h
    refine pl_tup (by simp) fun x hx => ?_
    simp only [List.mem_cons, List.not_mem_nil, or_false] at hx
    rcases hx with rfl | rfl
    · exact pl_bits (by omega)
    · exact pl_bits (by omega)
  cond := fun t l hr => by
    obtain ⟨as, bs, rfl, rfl, h1, h2⟩ := fig_some hr
    have ok1 : okD (.tup ((as.map iD).take 1)) = true := by
      rw [← List.map_take]
      exact okN_tupD (fun a => okN_iD a) _
    have ok2 : okD (.tup [.int 0]) = true := okD_ints [0]
    refine .inr ⟨rfl, as.map iD, bitsD bs, D.eqvs ((as.map iD).take 1) [.int 0], rfl, ?_⟩
    rw [f_eq_t, ok1, ok2]; rfl
  thing := fun l hl => by
    obtain ⟨as, bs, l', e, h1, h2, h3, k1, k2, hl'⟩ := thing2 l hl
    have q : ∀ c, c ≠ 48 → c ≠ 49 → c ≠ 40 → c ≠ 41 → c ∉ shB as ++ 40 :: (shB bs ++ [41]) := fun c c1 c2 c3 c4 => by
      simp only [List.mem_append, List.mem_cons, List.not_mem_nil, not_or, or_false]
      exact ⟨shB_not h1 c1 c2, c3, shB_not h2 c1 c2, c4⟩
    refine ⟨[as, bs], _, l', e, fig_show h1 h2 h3, more_of (q 10 (by decide) (by decide) (by decide) (by decide)), ?_, ?_, hl'⟩
    · simp only [List.length_append, List.length_cons, shB_len, List.length_nil]; omega
    · rw [List.count_eq_zero.mpr (q 32 (by decide) (by decide) (by decide) (by decide))]; omega
def shT (l : List Nat) : Tx := if l = [] then [45] else shB l
theorem tos_some {t : Tx} {l : List Nat} (h : tosOf t = some l) : shT l = t ∧ (∀ b ∈ l, b < 2) ∧ l.length ≤ t.length := by
  unfold tosOf at h
  unfold shT
  by_cases h1 : t = [45]
  · rw [if_pos h1] at h
    have h := Option.some.inj h
    subst h
    exact ⟨by rw [if_pos rfl, h1], by simp, by simp⟩
  · rw [if_neg h1] at h
    by_cases h2 : t = []
    · rw [if_pos h2] at h; simp at h
    · rw [if_neg h2] at h
      obtain ⟨e, hb⟩ := bits_some h
      have hl := shB_len l
      rw [e] at hl
      refine ⟨?_, hb, by omega⟩
      rw [if_neg, e]
      rintro rfl
      exact h2 (List.length_eq_zero_iff.mp hl)
theorem tos_show {l : List Nat} (h : ∀ b ∈ l, b < 2) : tosOf (shT l) = some l := by
  unfold tosOf shT
  by_cases h0 : l = []
  · subst h0; rfl
  · rw [if_neg h0, if_neg, if_neg, bits_show h]
    · intro z
      have := shB_len l
      rw [z] at this
      exact h0 (List.length_eq_zero_iff.mp this.symm)
    · intro z
      have : (45 : Nat) ∈ shB l := by rw [z]; simp
      exact shB_not h (by decide) (by decide) this
theorem shT_not {c : Nat} {l : List Nat} (h : ∀ b ∈ l, b < 2) (h1 : c ≠ 48) (h2 : c ≠ 49) (h3 : c ≠ 45) : c ∉ shT l := by
  unfold shT
  split
  · simpa using h3
  · exact shB_not h h1 h2
theorem sort3 : SortOK 3 bitsD tosOf where
  due := due3
  read := law_read3
  shown := fun t l h _ hr μ => by
    obtain ⟨e1, hb, hl⟩ := tos_some hr
    have e := s_show_tosses l hb (by omega)
    rw [show (if l = [] then ([45] : Tx) else shB l) = t from e1] at e
    refine run_of ?_
    simp -implicitDefEqProofs [D__law_shown, e]
  pl := fun t l h _ hr => pl_bits (by have := (tos_some hr).2.2; omega)
  cond := fun t x hr => .inl (by decide)
  thing := fun l hl => by
    obtain ⟨as, l', e, h1, k1, hl'⟩ := thing3 l hl
    refine ⟨as, shT as, l', e, tos_show h1, more_of (shT_not h1 (by decide) (by decide) (by decide)), ?_, ?_, hl'⟩
    · unfold shT
      split
      · simp
      · rw [shB_len]; omega
    · rw [List.count_eq_zero.mpr (shT_not h1 (by decide) (by decide) (by decide))]; omega
theorem same_is : ∀ k, G__law_same k = Gsame k
  | 0 => rfl
  | k + 1 => by rw [G__law_same, Gsame, same_is k]; rfl
theorem same_ok (d : D) (h : D.plN 20 d = true) (μ : Mu) : F__law_same [.v d, .v d] μ = .ok (.bl true) μ := by
  show G__law_same 40 _ _ = _
  rw [same_is]
  exact s_same 20 40 d h (by omega) μ
mutual
theorem pl_up : ∀ (n : Nat) (d : D), D.plN n d = true → D.plN (n + 1) d = true
  | n, .non, _ => plNo _
  | n, .bl _, _ => plB _ _
  | n, .int _, _ => plI _ _
  | n, .str _, _ => plS _ _
  | 0, .tup _, h => by simp [D.plN] at h
  | 0, .lst _, h => by simp [D.plN] at h
  | n + 1, .tup xs, h => by
    rw [D.plN, Bool.and_eq_true] at h ⊢
    exact ⟨h.1, pls_up n xs h.2⟩
  | n + 1, .lst xs, h => by
    rw [D.plN, Bool.and_eq_true] at h ⊢
    exact ⟨h.1, pls_up n xs h.2⟩
  | 0, .fn _, h => by simp [D.plN] at h
  | n + 1, .fn _, h => by simp [D.plN] at h
  | 0, .exc _ _, h => by simp [D.plN] at h
  | n + 1, .exc _ _, h => by simp [D.plN] at h
  | 0, .frz _, h => by simp [D.plN] at h
  | n + 1, .frz _, h => by simp [D.plN] at h
theorem pls_up : ∀ (n : Nat) (ds : List D), D.plNs n ds = true → D.plNs (n + 1) ds = true
  | n, [], _ => by rw [D.plNs]
  | n, x :: ds, h => by
    rw [D.plNs, Bool.and_eq_true] at h ⊢
    exact ⟨pl_up n x h.1, pls_up n ds h.2⟩
end
theorem pl_le {m n : Nat} {d : D} (h : D.plN m d = true) (hl : m ≤ n) : D.plN n d = true := by
  induction n with
  | zero =>
    have : m = 0 := by omega
    subst this; exact h
  | succ n ih =>
    by_cases hm : m = n + 1
    · subst hm; exact h
    · exact pl_up n d (ih (by omega))
theorem pl_pair {n : Nat} {a b : D} (ha : D.plN n a = true) (hb : D.plN n b = true) : D.plN (n + 1) (.tup [a, b]) = true := by
  rw [D.plN]; simp [D.plNs, ha, hb]
theorem pl_rdD {α : Type} {s : Int} {f : α → D} {rd : Tx → Option α} (S : SortOK s f rd) {t : Tx} (ht : Ask t) : D.plN 11 (rdD f rd t) = true := by
  have hf := fstL_len t
  have h1 := ht.1
  unfold rdD
  cases hr : rd (fstL t) with
  | none => exact pl_pair (plB _ _) (plI _ _)
  | some a =>
    cases hm : more t with
    | true => exact pl_pair (plB _ _) (plI _ _)
    | false => exact pl_pair (plB _ _) (S.pl _ a (by omega) ht.2 hr)
def sortB : List S := match D_law.body with
  | [_, .for _ _ [.for _ _ b], _] => b
  | _ => []
def bendB : List S := match sortB with
  | [_, _, .for _ _ b] => b
  | _ => []
theorem bend {α : Type} {s : Int} {f : α → D} {rd : Tx → Option α} (S : SortOK s f rd) (l : List D) (hl : Pot l) (t : Tx) (ht : t.length ≤ 10000) (hc : t.count 32 ≤ 39) (F : D) (x2 x4 x6 x7 x8 : Option A) :
    ∃ (l' : List D) (y7 y8 : Option A), exs 0 bendB [some (.v F), some (.c 0), x2, some (.v (.int s)), x4, some (.v (.str t)), x6, x7, x8] [⟨false, .lst l⟩] =
      .nx [some (.v F), some (.c 0), x2, some (.v (.int s)), x4, some (.v (.str t)), x6, y7, y8] [⟨false, .lst l'⟩] ∧ Pot l' := by
  obtain ⟨u, l1, e1, hu, hu2, hl1⟩ := s_bent l hl t ht 39 hc
  have ask : Ask u := ⟨by omega, by omega⟩
  have e2 := S.due u ask
  have e3 := S.read u ask
  have p1 := pl_rdD S ask
  have hs := same_ok (.lst [rdD f rd u, rdD f rd u]) (by
    rw [D.plN]; simp [D.plNs, pl_le p1 (show 11 ≤ 19 by omega)])
  rcases rd_cases f rd u with ⟨k, h1, _⟩ | ⟨a, h1, h2, h3, _⟩
  · rw [h1] at e2 e3 hs
    refine ⟨l1, some (.v (.str u)), some (.v (.tup [.bl false, .int k])), ?_, hl1⟩
    simp -implicitDefEqProofs [bendB, sortB, D_law, e1, e2, e3, hs]
  · have hfu := more_no h2
    rw [hfu] at h1 hu2
    have e4 := S.shown u a (by omega) (by omega) h1
    have hs2 := same_ok (.str u) (plS _ _)
    rw [h3] at e2 e3 hs
    refine ⟨l1, some (.v (.str u)), some (.v (.tup [.bl true, f a])), ?_, hl1⟩
    rcases S.cond u a h1 with hn | ⟨rfl, x, y, b, hfa, hb⟩
    · have hn' : (s != 2) = true := by simpa using hn
      simp -implicitDefEqProofs [bendB, sortB, D_law, e1, e2, e3, hs, e4, hs2, hn, hn']
    · rw [hfa] at e2 e3 hs e4 ⊢
      cases b with
      | true => simp -implicitDefEqProofs [bendB, sortB, D_law, e1, e2, e3, hs, e4, hs2, hb, -f_eq_t]
      | false => simp -implicitDefEqProofs [bendB, sortB, D_law, e1, e2, e3, hs, hb, -f_eq_t]
theorem sort_turn {α : Type} {s : Int} {f : α → D} {rd : Tx → Option α} (S : SortOK s f rd) (l : List D) (hl : Pot l) (F : D) (x2 x4 x5 x6 x7 x8 : Option A) :
    ∃ (l' : List D) (y4 y5 y6 y7 y8 : Option A), exs 0 sortB [some (.v F), some (.c 0), x2, some (.v (.int s)), x4, x5, x6, x7, x8] [⟨false, .lst l⟩] =
      .nx [some (.v F), some (.c 0), x2, some (.v (.int s)), y4, y5, y6, y7, y8] [⟨false, .lst l'⟩] ∧ Pot l' := by
  obtain ⟨a, t, l1, e1, hr, hm, ht, hc, hl1⟩ := S.thing l hl
  have hft := more_no hm
  have ask : Ask t := ⟨by omega, by rw [hft]; omega⟩
  have e2 := S.shown t a (by omega) (by omega) hr
  have e3 := S.read t ask true
  have e4 := S.due t ask
  have ed : rdD f rd t = .tup [.bl true, f a] := by unfold rdD; rw [hft, hr, hm]; rfl
  have pa := S.pl t a (by omega) (by omega) hr
  rw [ed] at e3 e4
  have hs := same_ok (.lst [.str t, .tup [.bl true, f a], .tup [.bl true, f a]]) (by
    rw [D.plN]; simp [D.plNs, plS, pl_pair (plB _ _) (pl_le pa (show 10 ≤ 18 by omega))])
  have hB : sortB = sortB.take 2 ++ [.for (.n 6) (.rng [(.k (.int 4))]) bendB] := rfl
  have hr4 : rngOf [.int 4] = some (rngL 0 4) := rngOf_nat 4 (by omega)
  obtain ⟨o, hx⟩ : ∃ o, exs 0 sortB [some (.v F), some (.c 0), x2, some (.v (.int s)), x4, x5, x6, x7, x8] [⟨false, .lst l⟩] = o := ⟨_, rfl⟩
  have hx0 := hx
  have h3 : exs 0 (sortB.take 2) [some (.v F), some (.c 0), x2, some (.v (.int s)), x4, x5, x6, x7, x8] [⟨false, .lst l⟩] = .nx [some (.v F), some (.c 0), x2, some (.v (.int s)), some (.v (f a)), some (.v (.str t)), x6, x7, x8] [⟨false, .lst l1⟩] := by
    simp -implicitDefEqProofs [sortB, D_law, e1, e2, e3, e4, hs]
  rw [hB, exs_app, h3, o_nx] at hx
  simp -implicitDefEqProofs [hr4] at hx
  generalize hf : forGo _ _ _ _ _ = o2 at hx
  obtain ⟨ρ', μ', rfl, hI⟩ := for_o hf (fun k ρ μ' => ∃ (l' : List D) (y6 y7 y8 : Option A), ρ = [some (.v F), some (.c 0), x2, some (.v (.int s)), some (.v (f a)), some (.v (.str t)), y6, y7, y8] ∧ μ' = [⟨false, .lst l'⟩] ∧ Pot l')
    ⟨l1, _, _, _, rfl, rfl, hl1⟩ (by
    rintro i x hx ρ μ' ⟨l', y6, y7, y8, rfl, rfl, hl'⟩
    obtain ⟨l2, z7, z8, e, hl2⟩ := bend S l' hl' t ht hc F x2 (some (.v (f a))) (some (.v x)) y7 y8
    exact ⟨_, by simp -implicitDefEqProofs; (first | done | rfl | exact ⟨rfl, rfl⟩), _, _, .inl e, l2, _, _, _, rfl, rfl, hl2⟩)
  obtain ⟨l', y6, y7, y8, rfl, rfl, hl'⟩ := hI
  simp -implicitDefEqProofs at hx
  exact ⟨l', _, _, _, _, _, hx0.trans hx.symm, hl'⟩
theorem s_pot (ns : List Int) (h : ns.length ≤ 63) (μ : Mu) : F__law_pot [.v (.frz (ns.map D.int))] μ = .ok (.lst (.int 0 :: .int 5801 :: .int 3 :: ns.map D.int)) μ := by
  have hs : 3 + ns.length ≤ SL := by rw [SL_eq]; omega
  refine run_of ?_
  simp -implicitDefEqProofs [D__law_pot, hs]
theorem law_true (ns : List Int) (h : ns.length ≤ 63) : ∃ μ, F_law [.v (.frz (ns.map D.int))] [] = .ok (.bl true) μ := by
  have hp := s_pot ns h
  have hD : D_law = ⟨9, 1, [Wp.S.new 1 0 (.call "_law_pot" F__law_pot [(.var 0)]), .for (.n 2) (.rng [(.k (.int 3))]) [.for (.n 3) (.rng [(.k (.int 4))]) sortB], .ret (.k (.bl true))]⟩ := rfl
  have hr : rngOf [.int 3] = some (rngL 0 3) := rngOf_nat 3 (by omega)
  have hr3 : rngOf [.int 4] = some (rngL 0 4) := rngOf_nat 4 (by omega)
  refine ⟨[], run_of ?_⟩
  generalize hx : exs _ _ _ _ = o
  rw [hD] at hx
  simp -implicitDefEqProofs [hp, hr] at hx
  generalize hf : forGo _ _ _ _ _ = o2 at hx
  obtain ⟨ρ', μ', rfl, hI⟩ := for_o hf (fun k ρ μ' => ∃ l y2 y3 y4 y5 y6 y7 y8, Pot l ∧ μ' = [⟨false, .lst l⟩] ∧ ρ = [some (.v (.frz (ns.map D.int))), some (.c 0), y2, y3, y4, y5, y6, y7, y8])
    ⟨_, _, _, _, _, _, _, _, ⟨0, 5801, 3, ns, rfl, by omega, by omega, by omega, by omega, by omega, h⟩, rfl, rfl⟩ (by
    rintro i x hx ρ μ' ⟨l, y2, y3, y4, y5, y6, y7, y8, hl, rfl, rfl⟩
    refine ⟨[some (.v (.frz (ns.map D.int))), some (.c 0), some (.v x), y3, y4, y5, y6, y7, y8], by simp -implicitDefEqProofs, ?_⟩
    obtain ⟨o, hx⟩ : ∃ o, exs 0 [S.for (.n 3) (.rng [(.k (.int 4))]) sortB] [some (.v (.frz (ns.map D.int))), some (.c 0), some (.v x), y3, y4, y5, y6, y7, y8] [⟨false, .lst l⟩] = o := ⟨_, rfl⟩
    have hx0 := hx
    simp -implicitDefEqProofs [hr3] at hx
    generalize hf : forGo _ _ _ _ _ = o2 at hx
    obtain ⟨ρ', μ', rfl, hI⟩ := for_o hf (fun k ρ μ' => ∃ l y3 y4 y5 y6 y7 y8, Pot l ∧ μ' = [⟨false, .lst l⟩] ∧ ρ = [some (.v (.frz (ns.map D.int))), some (.c 0), some (.v x), y3, y4, y5, y6, y7, y8])
      ⟨_, _, _, _, _, _, _, hl, rfl, rfl⟩ (by
      rintro j z hz ρ μ' ⟨l, y3, y4, y5, y6, y7, y8, hl, rfl, rfl⟩
      refine ⟨[some (.v (.frz (ns.map D.int))), some (.c 0), some (.v x), some (.v z), y4, y5, y6, y7, y8], by simp -implicitDefEqProofs, ?_⟩
      obtain ⟨hj, rfl⟩ := rngL_at hz
      have hj3 : j = 0 ∨ j = 1 ∨ j = 2 ∨ j = 3 := by omega
      rcases hj3 with rfl | rfl | rfl | rfl
      · obtain ⟨l2, z4, z5, z6, z7, z8, e, hl2⟩ := sort_turn sort0 l hl (.frz (ns.map D.int)) (some (.v x)) y4 y5 y6 y7 y8
        exact ⟨_, _, .inl e, _, _, _, _, _, _, _, hl2, rfl, rfl⟩
      · obtain ⟨l2, z4, z5, z6, z7, z8, e, hl2⟩ := sort_turn sort1 l hl (.frz (ns.map D.int)) (some (.v x)) y4 y5 y6 y7 y8
        exact ⟨_, _, .inl e, _, _, _, _, _, _, _, hl2, rfl, rfl⟩
      · obtain ⟨l2, z4, z5, z6, z7, z8, e, hl2⟩ := sort_turn sort2 l hl (.frz (ns.map D.int)) (some (.v x)) y4 y5 y6 y7 y8
        exact ⟨_, _, .inl e, _, _, _, _, _, _, _, hl2, rfl, rfl⟩
      · obtain ⟨l2, z4, z5, z6, z7, z8, e, hl2⟩ := sort_turn sort3 l hl (.frz (ns.map D.int)) (some (.v x)) y4 y5 y6 y7 y8
        exact ⟨_, _, .inl e, _, _, _, _, _, _, _, hl2, rfl, rfl⟩)
    obtain ⟨l2, z3, z4, z5, z6, z7, z8, hl2, rfl, rfl⟩ := hI
    simp -implicitDefEqProofs at hx
    exact ⟨_, _, .inl (hx0.trans hx.symm), _, _, _, _, _, _, _, _, hl2, rfl, rfl⟩)
  obtain ⟨l, y2, y3, y4, y5, y6, y7, y8, hl, rfl, rfl⟩ := hI
  simp -implicitDefEqProofs at hx
  subst hx
  simp -implicitDefEqProofs
end Tw
theorem Lw.law_true (ns : List Int) (h : ns.length ≤ 63) : ∃ μ, Lw.F_law [.v (.frz (ns.map Wp.D.int))] [] = .ok (.bl true) μ := Tw.law_true ns h

set_option Elab.async false
set_option linter.all false
set_option maxRecDepth 100000
set_option maxHeartbeats 0
open PySem PySem.W PySem.Calls PyProof.Rows
theorem PySem.Challenge.cw_wholeplays_k60_whole_texts_of_numbers_sh_holds : PySem.Challenge.rw_wholeplays_k60_whole_texts_of_numbers_sh.Holds := by
  w_on; o_law
  refine HandSHeadRun.head_imp (r := OpenLaw.row PySem.Challenge.rw_wholeplays_k60_whole_texts_of_numbers_sh) (q := view (OpenLaw.row PySem.Challenge.rw_wholeplays_k60_whole_texts_of_numbers_sh).prog [0, 65]) (H := Lw.hk) (ob := Lw.ob) (M := 3000) (loose := Lw.loose) (d := HandSHeadRun.topDef (OpenLaw.row PySem.Challenge.rw_wholeplays_k60_whole_texts_of_numbers_sh).prog 65) (kwd := []) Lw.ob_eq
    Lw.run (by kernel_rfl) (by kernel_rfl) (by kernel_rfl) (by rfl) (by first | assumption | decide +kernel) (by decide +kernel) ⟨rfl, rfl, rfl, rfl, rfl, by decide +kernel⟩ ?hw ?hc
  case hw => w_witness2
  case hc =>
    refine L2.walk_ofE (l := PySem.Challenge.rw_wholeplays_k60_whole_texts_of_numbers_sh) (n := 63) (k := 42) (x := "script") (CX := C8.CX0) rfl (by decide) (by kernel_rfl) ⟨rfl, by decide, by decide⟩ ?F (fun _ _ _ _ z => z)
    case F =>
      intro w mg fa h Y G hmg0
      obtain ⟨K, KX, e, c⟩ := Y
      have hmg : mg ("law" : PySem.Str) = some (.ref fa) := by
        have e : (HandSHeadRun.topDef (OpenLaw.row PySem.Challenge.rw_wholeplays_k60_whole_texts_of_numbers_sh).prog 65).name = ("law" : PySem.Str) := by kernel_rfl
        rw [← e]
        exact hmg0
      obtain ⟨fd, F⟩ := c.def_ 51 (d := Lw.dd "law" 65) rfl
      have e2 := hmg.symm.trans (He.glo_ok KX G (c.fact 51 (f := .glo "law") rfl))
      cases e2
      have Z := Lw.hd KX G e c
      exact ⟨K, fd, fun vs H Q _ => Wp.spOf K 1 .v Lw.F_law vs H Q fun _ _ _ => False, KX, fun s u => L2.FunD.bindsA (ps := ["script"]) F (fun _ _ _ _ _ _ us hl => match us, hl with | [_], _ => rfl) s [u] rfl,
        fun H a ns hn _ hS => Wp.law_sp hS (Lw.law_true ns hn), fun base _ _ => Wp.ok_CX0 (Lw.ok_law Z F)⟩
