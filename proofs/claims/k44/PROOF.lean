import PyProof.Rows.All
import Wide.All
import OpenK.AllK
import Wide.FinOn
import PySem.Str
import HandS.ForMost
import HandS.Exc
import HandS.ExcOwn
import HandS.WordsExc
import HandS.TryOnly
import HandS.Flow
import HandS.Style
import HandS.Wide
import HandS.WideBits
import HandS.IsInst
import HandS.SortInts
import HandS.Codes
import HandS.TupAny
import HandS.TupMul
import HandS.Deep
import HandS.SetFor
import HandS.RaiseMore
import HandS.Small
import HandS.WordsDict
import HandS.More
import HandS.Walk
import HandS.Zip
import HandS.Rev
import HandS.WideMore
import HandS.Defaults
import HandS.HeadEnd
import HandS.HeadHook1
import HandS.HeadHook2
import HandS.EndBits
import HandS.Head0
import HandS.Head1
import HandS.Head2
import PyProof.Rows.Walk
import PySem.Challenge.RW_rowtruce_k44_fractions
set_option linter.all false
/-! EvA: a small language and what its runs ask, over plain data. -/
namespace Ev
open PySem (Str)

/-- plain data; an object that may change stands by its address -/
inductive D where
  | non | bl (b : Bool) | int (i : Int) | str (s : Str) | tup (l : List D) | fz (l : List D) | ref (a : Nat)
  deriving Inhabited

/-- objects -/
inductive AO where
  | lst (l : List D)
  | dic (kv : List (D × D))
  | ins (c : Str) (fs : List (Str × D))

abbrev Sto := Nat → Option AO
abbrev Loc := List (Option D)
abbrev DK := D → Sto → Prop
/-- an exception: its class, its fields -/
structure Xc where
  cls : Str
  fs : List (Str × D)
abbrev XK := Xc → Sto → Prop

def put (S : Sto) (p : Nat) (o : AO) : Sto := fun q => if q = p then some o else S q
/-- less is known -/
def Sub (S S' : Sto) : Prop := ∀ a o, S a = some o → S' a = some o

def line : Nat := 16777216

/-! ### ints -/
def bnot (x : Int) : Int := -x - 1
def band (x y : Int) : Int :=
  if 0 ≤ x then (if 0 ≤ y then Int.ofNat (x.toNat &&& y.toNat) else x - Int.ofNat (x.toNat &&& (bnot y).toNat))
  else (if 0 ≤ y then y - Int.ofNat (y.toNat &&& (bnot x).toNat) else bnot (Int.ofNat ((bnot x).toNat ||| (bnot y).toNat)))
def bor (x y : Int) : Int := bnot (band (bnot x) (bnot y))
def bxor (x y : Int) : Int := bor x y - band x y
def b2 (b : Bool) : Int := if b then 1 else 0

/-! ### sequences -/
def ixn (n : Nat) (i : Int) : Option Nat :=
  if 0 ≤ i then (if i < Int.ofNat n then some i.toNat else none)
  else (if 0 ≤ i + Int.ofNat n then some (i + Int.ofNat n).toNat else none)
def nth {α : Type} (l : List α) (i : Int) : Option α := (ixn l.length i).bind fun j => l[j]?
def six (n d : Nat) : Option Int → Nat
  | none => d
  | some v => if v < 0 then (v + Int.ofNat n).toNat else min v.toNat n
def cut {α : Type} (l : List α) (lo hi : Option Int) : List α :=
  (l.drop (six l.length 0 lo)).take (six l.length l.length hi - six l.length 0 lo)

/-! ### equality of data -/
def allF {α β : Type} (f : α → β → Bool) : List α → List β → Bool
  | [], [] => true
  | a :: r, b :: t => f a b && allF f r t
  | _, _ => false
def eqF : Nat → D → D → Bool
  | _, .non, .non => true
  | _, .bl a, .bl b => a == b
  | _, .bl a, .int b => b2 a == b
  | _, .int a, .bl b => a == b2 b
  | _, .int a, .int b => a == b
  | _, .str a, .str b => decide (a = b)
  | n + 1, .tup l, .tup m => allF (eqF n) l m
  | _, _, _ => false
def strok (s : Str) : Bool := s.cps.all fun c => decide (c < 1114112)
def fin : Nat → D → Bool
  | _, .non => true
  | _, .bl _ => true
  | _, .int _ => true
  | _, .str s => strok s
  | n + 1, .tup l => l.all (fin n)
  | _, _ => false
/-- the items of a list or a tuple -/
def seq? (S : Sto) : D → Option (List D)
  | .tup l => some l
  | .ref n => match S n with
    | some (.lst l) => some l
    | _ => none
  | _ => none
/-- a value as it stands; a list by its items -/
def flat? (S : Sto) : D → Option D
  | .ref n => match S n with
    | some (.lst l) => some (.fz l)
    | _ => none
  | .fz _ => none
  | d => some d
def finT : D → Bool
  | .fz l => l.all (fin 12)
  | d => fin 12 d
def eqT : D → D → Bool
  | .fz l, .fz r => allF (eqF 12) l r
  | .fz _, _ => false
  | _, .fz _ => false
  | a, b => eqF 12 a b
/-- a == b -/
def eqW (S : Sto) (a b : D) (K : Bool → Prop) : Prop :=
  ∃ x y, flat? S a = some x ∧ flat? S b = some y ∧ (finT x && finT y) = true ∧ K (eqT x y)

/-! ### the language -/
inductive Bop | add | sub | mul | fdiv | mod | pow | shl | shr | and | or | xor
  deriving DecidableEq
inductive Cop | lt | le | gt | ge | eq | ne | is | isnot | inn | notin
  deriving DecidableEq
inductive Ty | int | bool | str | tuple | list | dict
  deriving DecidableEq
inductive Bf | len | abs | min2 | max2 | int | bool | list | tuple | sum | minl | maxl | any | all | sorted | str
  deriving DecidableEq
inductive Mt | append | extend | pop0 | pop1 | insert | remove | index | count | reverse | get2 | bitlen
  deriving DecidableEq

mutual
inductive Ex where
  | var (i : Nat)
  | non | bl (b : Bool) | int (z : Int) | str (s : Str)
  | tup (es : Exs) | lst (es : Exs) | dic0
  | bin (op : Bop) (a b : Ex) | neg (a : Ex) | inv (a : Ex) | not (a : Ex)
  | cmp (op : Cop) (a b : Ex) | chn (o1 o2 : Cop) (a b c : Ex)
  | and (a b : Ex) | or (a b : Ex) | ite (c a b : Ex)
  | idx (a i : Ex) | slc (a : Ex) (lo hi : Oe)
  | call (f : Str) (es : Exs)
  | blt (f : Bf) (es : Exs)
  | isi (a : Ex) (t : Ty)
  | mth (m : Mt) (o : Ex) (es : Exs)
  | lc (elt : Ex) (tg : Tg) (it : It) (c : Oe) (vs : List Nat)
inductive Exs where
  | nil | cons (e : Ex) (es : Exs)
inductive Oe where
  | no | yes (e : Ex)
inductive It where
  | val (e : Ex) | rg1 (a : Ex) | rg2 (a b : Ex) | rgd (a b : Ex) | enum (e : Ex) | zip (a b : Ex) | rev (e : Ex)
inductive Tg where
  | nm (i : Nat) | tp (ts : Tgs)
inductive Tgs where
  | nil | cons (t : Tg) (ts : Tgs)
end
inductive Lt where
  | tg (t : Tg) | sub (a i : Ex)
mutual
inductive Sx where
  | asg (t : Lt) (e : Ex)
  | aug (i : Nat) (op : Bop) (e : Ex)
  | augs (a i : Ex) (op : Bop) (e : Ex)
  | exp (e : Ex) | ret (e : Ex) | retn
  | iff (c : Ex) (a b : Sxs)
  | whl (c : Ex) (b : Sxs)
  | for (tg : Tg) (it : It) (b : Sxs)
  | brk | cnt | pss
inductive Sxs where
  | nil | cons (s : Sx) (ss : Sxs)
end
structure Df where
  np : Nat
  nn : Nat
  body : Sxs
abbrev Prog := Str → Option Df

/-! ### operators -/
def mulOk (i j : Int) : Prop := i.natAbs.log2 + j.natAbs.log2 < 130000000
def binW (op : Bop) (a b : D) (S : Sto) (K : DK) : Prop :=
  match op, a, b with
  | .add, .int i, .int j => K (.int (i + j)) S
  | .add, .int i, .bl j => K (.int (i + b2 j)) S
  | .add, .str x, .str y => x.length + y.length ≤ line ∧ K (.str (x ++ y)) S
  | .add, .tup l, .tup m => l.length + m.length ≤ line ∧ K (.tup (l ++ m)) S
  | .add, .ref m, .ref n => ∃ l r, S m = some (.lst l) ∧ S n = some (.lst r) ∧ l.length + r.length ≤ line ∧ ∀ p, S p = none → K (.ref p) (put S p (.lst (l ++ r)))
  | .sub, .int i, .int j => K (.int (i - j)) S
  | .mul, .int i, .int j => mulOk i j ∧ K (.int (i * j)) S
  | .mul, .ref m, .int k => ∃ l, S m = some (.lst l) ∧ k < 2 ^ 62 ∧ -(2 ^ 62) < k ∧ l.length * k.toNat ≤ line ∧ ∀ p, S p = none → K (.ref p) (put S p (.lst (List.replicate k.toNat l).flatten))
  | .fdiv, .int i, .int j => (0 < j ∧ j.natAbs.log2 < 9000) ∧ K (.int (i / j)) S
  | .mod, .int i, .int j => 0 < j ∧ K (.int (i % j)) S
  | .pow, .int i, .int j => (0 ≤ j ∧ j ≤ 1000000 ∧ i.natAbs < 2 ^ 64) ∧ K (.int (i ^ j.toNat)) S
  | .shl, .int i, .int j => (0 ≤ j ∧ j ≤ 1000000 ∧ i.natAbs < 2 ^ 64) ∧ K (.int (i * 2 ^ j.toNat)) S
  | .shr, .int i, .int j => 0 ≤ j ∧ K (.int (i / 2 ^ j.toNat)) S
  | .and, .int i, .int j => K (.int (band i j)) S
  | .or, .int i, .int j => K (.int (bor i j)) S
  | .xor, .int i, .int j => K (.int (bxor i j)) S
  | _, _, _ => False
/-- a op= b -/
def augW (op : Bop) (a b : D) (S : Sto) (K : DK) : Prop :=
  match a, b with
  | .ref m, .ref n => op = .add ∧ ∃ l r, S m = some (.lst l) ∧ S n = some (.lst r) ∧ l.length + r.length ≤ line ∧ K (.ref m) (put S m (.lst (l ++ r)))
  | .str x, .str y => op = .add ∧ x.length + y.length ≤ line ∧ K (.str (x ++ y)) S
  | .int i, .int j => op ≠ .pow ∧ binW op (.int i) (.int j) S K
  | _, _ => False
/-- the truth of a value -/
def truth? (S : Sto) : D → Option Bool
  | .non => some false
  | .bl b => some b
  | .int i => some (i != 0)
  | .str s => if s.length ≤ line then some ((s.length : Int) != 0) else none
  | .tup l => some (!l.isEmpty)
  | .fz _ => none
  | .ref n => match S n with
    | some (.lst l) => some (!l.isEmpty)
    | some (.dic l) => some (!l.isEmpty)
    | _ => none
def lexI : List Int → List Int → Bool
  | [], [] => false
  | [], _ :: _ => true
  | _ :: _, [] => false
  | x :: r, y :: t => if x = y then lexI r t else decide (x < y)
def ints? : List D → Option (List Int)
  | [] => some []
  | .int i :: r => (ints? r).map (i :: ·)
  | _ => none
def bls? : List D → Option (List Bool)
  | [] => some []
  | .bl i :: r => (bls? r).map (i :: ·)
  | _ => none
def ofO {α : Type} (o : Option α) (K : α → Prop) : Prop := ∃ a, o = some a ∧ K a
/-- k in the dict's keys -/
def hask (kv : List (D × D)) (k : D) : Bool := kv.any fun p => eqF 12 p.1 k
def getk (kv : List (D × D)) (k : D) : Option D := (kv.find? fun p => eqF 12 p.1 k).map (·.2)
def putk (kv : List (D × D)) (k v : D) : List (D × D) :=
  if hask kv k then kv.map fun p => if eqF 12 p.1 k then (p.1, v) else p else kv ++ [(k, v)]
def isKey : D → Bool
  | .int _ => true
  | .str _ => true
  | _ => false
def inW (a b : D) (S : Sto) (K : Bool → Prop) : Prop :=
  match b with
  | .tup l => (fin 12 a && l.all (fin 12)) = true ∧ K (l.any fun y => eqF 12 y a)
  | .ref n => match S n with
    | some (.lst l) => (fin 12 a && l.all (fin 12)) = true ∧ K (l.any fun y => eqF 12 y a)
    | some (.dic kv) => isKey a = true ∧ K (hask kv a)
    | _ => False
  | _ => False
def cmpW (op : Cop) (a b : D) (S : Sto) (K : Bool → Prop) : Prop :=
  match op with
  | .eq => eqW S a b K
  | .ne => eqW S a b fun c => K (!c)
  | .is => b = .non ∧ K (match a with | .non => true | _ => false)
  | .isnot => b = .non ∧ K (match a with | .non => false | _ => true)
  | .inn => inW a b S K
  | .notin => inW a b S fun c => K (!c)
  | .lt => match a, b with
    | .int i, .int j => K (decide (i < j))
    | .tup l, .tup m => ofO (ints? l) fun x => ofO (ints? m) fun y => K (lexI x y)
    | _, _ => False
  | .le => match a, b with
    | .int i, .int j => K (decide (i ≤ j))
    | _, _ => False
  | .gt => match a, b with
    | .int i, .int j => K (decide (j < i))
    | _, _ => False
  | .ge => match a, b with
    | .int i, .int j => K (decide (j ≤ i))
    | _, _ => False
def idxW (a i : D) (S : Sto) (K : D → Prop) : Prop :=
  match a, i with
  | .tup l, .int k => ofO (nth l k) K
  | .ref n, i => match S n, i with
    | some (.lst l), .int k => ofO (nth l k) K
    | some (.dic kv), k => isKey k = true ∧ ofO (getk kv k) K
    | _, _ => False
  | _, _ => False
def slcW (a : D) (lo hi : Option Int) (S : Sto) (K : DK) : Prop :=
  match a with
  | .tup l => K (.tup (cut l lo hi)) S
  | .ref n => match S n with
    | some (.lst l) => ∀ p, S p = none → K (.ref p) (put S p (.lst (cut l lo hi)))
    | _ => False
  | _ => False
def bltW (f : Bf) (as : List D) (S : Sto) (K : DK) : Prop :=
  match f, as with
  | .len, [.str s] => s.length ≤ line ∧ K (.int s.length) S
  | .len, [.tup l] => K (.int l.length) S
  | .len, [.ref n] => match S n with
    | some (.lst l) => K (.int l.length) S
    | some (.dic l) => K (.int l.length) S
    | _ => False
  | .abs, [.int i] => K (.int (if i < 0 then -i else i)) S
  | .min2, [.int i, .int j] => K (.int (if j < i then j else i)) S
  | .max2, [.int i, .int j] => K (.int (if j > i then j else i)) S
  | .int, [.int i] => K (.int i) S
  | .int, [.bl b] => K (.int (b2 b)) S
  | .str, [.int i] => i.natAbs.log2 < 1920 ∧ K (.str (toString i : String)) S
  | .bool, [.int i] => K (.bl (i != 0)) S
  | .bool, [.bl b] => K (.bl b) S
  | .list, [.tup l] => ∀ p, S p = none → K (.ref p) (put S p (.lst l))
  | .list, [.ref n] => match S n with
    | some (.lst l) => ∀ p, S p = none → K (.ref p) (put S p (.lst l))
    | some (.dic kv) => ∀ p, S p = none → K (.ref p) (put S p (.lst (kv.map (·.1))))
    | _ => False
  | .tuple, [.tup l] => K (.tup l) S
  | .tuple, [.ref n] => match S n with
    | some (.lst l) => K (.tup l) S
    | _ => False
  | .sum, [.ref n] => match S n with
    | some (.lst l) => ofO (ints? l) fun z => K (.int z.sum) S
    | _ => False
  | .maxl, [.ref n] => match S n with
    | some (.lst l) => ofO (ints? l) fun z => z ≠ [] ∧ ∀ m, m ∈ z → (∀ y, y ∈ z → y ≤ m) → K (.int m) S
    | _ => False
  | .minl, [.ref n] => match S n with
    | some (.lst l) => ofO (ints? l) fun z => z ≠ [] ∧ ∀ m, m ∈ z → (∀ y, y ∈ z → m ≤ y) → K (.int m) S
    | _ => False
  | .any, [.ref n] => match S n with
    | some (.lst l) => ofO (bls? l) fun z => K (.bl (z.any id)) S
    | _ => False
  | .all, [.ref n] => match S n with
    | some (.lst l) => ofO (bls? l) fun z => K (.bl (z.all id)) S
    | _ => False
  | .sorted, [.ref n] => match S n with
    | some (.lst l) => ofO (ints? l) fun z => ∀ (z' : List Int) p, z'.Perm z → z'.Pairwise (· ≤ ·) → S p = none → K (.ref p) (put S p (.lst (z'.map .int)))
    | _ => False
  | _, _ => False
def isiD (S : Sto) (a : D) (t : Ty) (K : Bool → Prop) : Prop :=
  match a with
  | .non => K false
  | .bl _ => K (decide (t = .bool ∨ t = .int))
  | .int _ => K (decide (t = .int))
  | .str _ => K (decide (t = .str))
  | .tup _ => K (decide (t = .tuple))
  | .fz _ => False
  | .ref n => match S n with
    | some (.lst _) => K (decide (t = .list))
    | some (.dic _) => K (decide (t = .dict))
    | _ => False
/-- the receiver is of the method's type -/
def rcvW (m : Mt) (x : D) (S : Sto) : Prop :=
  match m, x with
  | .bitlen, .int _ => True
  | .get2, .ref n => match S n with
    | some (.dic _) => True
    | _ => False
  | .bitlen, _ => False
  | _, .ref n => match S n with
    | some (.lst _) => True
    | _ => False
  | _, _ => False
def blen (i : Int) : Int := if i = 0 then 0 else Int.ofNat (i.natAbs.log2 + 1)
def mthW (m : Mt) (o : D) (as : List D) (S : Sto) (K : DK) : Prop :=
  match o with
  | .int z => match m, as with
    | .bitlen, [] => K (.int (blen z)) S
    | _, _ => False
  | .ref n => match S n, m, as with
    | some (.lst l), .append, [x] => l.length < line ∧ K .non (put S n (.lst (l ++ [x])))
    | some (.lst l), .extend, [x] => ∃ r, seq? S x = some r ∧ l.length + r.length ≤ line ∧ K .non (put S n (.lst (l ++ r)))
    | some (.lst l), .pop0, [] => ofO (l[l.length - 1]?) fun x => K x (put S n (.lst l.dropLast))
    | some (.lst l), .pop1, [.int i] => ofO (ixn l.length i) fun j => ofO (l[j]?) fun x => K x (put S n (.lst (l.eraseIdx j)))
    | some (.dic kv), .get2, [k, d] => isKey k = true ∧ K ((getk kv k).getD d) S
    | _, _, _ => False
  | _ => False

/-! ### targets -/
mutual
def tgW : Tg → D → Loc → (Loc → Prop) → Prop
  | .nm i, d, σ, K => K (σ.set i (some d))
  | .tp ts, .tup l, σ, K => tgsW ts l σ K
  | .tp _, _, _, _ => False
def tgsW : Tgs → List D → Loc → (Loc → Prop) → Prop
  | .nil, [], σ, K => K σ
  | .cons t ts, d :: r, σ, K => tgW t d σ fun σ' => tgsW ts r σ' K
  | _, _, _, _ => False
end
def wipe (σ : Loc) : List Nat → Loc
  | [] => σ
  | v :: vs => (wipe σ vs).set v none

/-- an iteration: the items, and what must stay true of the store while they are taken -/
def small62 (i : Int) : Prop := -(2 ^ 62) < i ∧ i < 2 ^ 62
def itvW (d : D) (S : Sto) (K : List D → (Sto → Prop) → Prop) : Prop :=
  match d with
  | .tup l => K l fun _ => True
  | .fz l => K l fun _ => True
  | .ref n => match S n with
    | some (.lst l) => K l fun S' => S' n = some (.lst l)
    | _ => False
  | _ => False
/-- a list's items -/
def itlW (d : D) (S : Sto) (K : List D → (Sto → Prop) → Prop) : Prop :=
  match d with
  | .fz l => K l fun _ => True
  | .ref n => match S n with
    | some (.lst l) => K l fun S' => S' n = some (.lst l)
    | _ => False
  | _ => False
def zip2 (l r : List D) : List D := (l.zip r).map fun p => .tup [p.1, p.2]
def zipW (x y : D) (S : Sto) (K : List D → (Sto → Prop) → Prop) : Prop :=
  match x, y with
  | .tup l, .tup r => K (zip2 l r) fun _ => True
  | x, y => itlW x S fun l c1 => itlW y S fun r c2 => K (zip2 l r) fun S' => c1 S' ∧ c2 S'
def forW (chk : Sto → Prop) (body : D → Loc → Sto → (Loc → Sto → Prop) → Prop) : List D → Loc → Sto → (Loc → Sto → Prop) → Prop
  | [], σ, S, K => chk S ∧ K σ S
  | d :: r, σ, S, K => chk S ∧ body d σ S fun σ' S' => forW chk body r σ' S' K
/-- a comprehension: the block's slots stand as at its start at each turn; acc what is made so far -/
def lcW (chk : Sto → Prop) (turn : D → Sto → (Option D → Sto → Prop) → Prop) : List D → List D → Sto → (List D → Sto → Prop) → Prop
  | [], acc, S, K => chk S ∧ K acc S
  | d :: r, acc, S, K => chk S ∧ turn d S fun o S' => match o with
    | some x => acc.length < line ∧ lcW chk turn r (acc ++ [x]) S' K
    | none => lcW chk turn r acc S' K

abbrev CallT := Str → List D → Sto → DK → XK → Prop
def noX : XK := fun _ _ => False

/-! ### expressions -/
mutual
def exW (C : CallT) : Ex → Loc → XK → Sto → DK → Prop
  | .var i, σ, _, S, K => ∃ d, σ[i]? = some (some d) ∧ K d S
  | .non, _, _, S, K => K .non S
  | .bl b, _, _, S, K => K (.bl b) S
  | .int z, _, _, S, K => K (.int z) S
  | .str s, _, _, S, K => K (.str s) S
  | .tup es, σ, E, S, K => exsW C es σ E S fun l S' => l.length ≤ line ∧ K (.tup l) S'
  | .lst es, σ, E, S, K => exsW C es σ E S fun l S' => l.length ≤ line ∧ ∀ p, S' p = none → K (.ref p) (put S' p (.lst l))
  | .dic0, _, _, S, K => ∀ p, S p = none → K (.ref p) (put S p (.dic []))
  | .bin op a b, σ, E, S, K => exW C a σ E S fun x S1 => exW C b σ E S1 fun y S2 => binW op x y S2 K
  | .neg a, σ, E, S, K => exW C a σ E S fun x S1 => ∃ i, x = .int i ∧ K (.int (-i)) S1
  | .inv a, σ, E, S, K => exW C a σ E S fun x S1 => ∃ i, x = .int i ∧ K (.int (bnot i)) S1
  | .not a, σ, E, S, K => exW C a σ E S fun x S1 => ofO (truth? S1 x) fun b => K (.bl (!b)) S1
  | .cmp op a b, σ, E, S, K => exW C a σ E S fun x S1 => exW C b σ E S1 fun y S2 => cmpW op x y S2 fun c => K (.bl c) S2
  | .chn o1 o2 a b c, σ, E, S, K => exW C a σ E S fun x S1 => exW C b σ E S1 fun y S2 => cmpW o1 x y S2 fun k =>
      if k = true then exW C c σ E S2 fun z S3 => cmpW o2 y z S3 fun k' => K (.bl k') S3 else K (.bl false) S2
  | .and a b, σ, E, S, K => exW C a σ E S fun x S1 => ofO (truth? S1 x) fun k => if k = true then exW C b σ E S1 K else K x S1
  | .or a b, σ, E, S, K => exW C a σ E S fun x S1 => ofO (truth? S1 x) fun k => if k = true then K x S1 else exW C b σ E S1 K
  | .ite c a b, σ, E, S, K => exW C c σ E S fun x S1 => ofO (truth? S1 x) fun k => if k = true then exW C a σ E S1 K else exW C b σ E S1 K
  | .idx a i, σ, E, S, K => exW C a σ E S fun x S1 => exW C i σ E S1 fun y S2 => idxW x y S2 fun d => K d S2
  | .slc a lo hi, σ, E, S, K => exW C a σ E S fun x S1 => oeW C lo σ E S1 fun l S2 => oeW C hi σ E S2 fun h S3 => slcW x l h S3 K
  | .call f es, σ, E, S, K => exsW C es σ E S fun l S1 => C f l S1 K E
  | .blt f es, σ, E, S, K => exsW C es σ E S fun l S1 => bltW f l S1 K
  | .isi a t, σ, E, S, K => exW C a σ E S fun x S1 => isiD S1 x t fun b => K (.bl b) S1
  | .mth m o es, σ, E, S, K => exW C o σ E S fun x S1 => rcvW m x S1 ∧ exsW C es σ E S1 fun l S2 => mthW m x l S2 K
  | .lc elt tg it c vs, σ, E, S, K => itW C it σ E S fun ds chk S1 =>
      lcW chk (fun d S2 Kt => tgW tg d (wipe σ vs) fun σ2 =>
        ocW C c σ2 S2 fun b S3 => if b = true then exW C elt σ2 noX S3 fun x S4 => Kt (some x) S4 else Kt none S3) ds [] S1 fun l S5 => ∀ p, S5 p = none → K (.ref p) (put S5 p (.lst l))
def exsW (C : CallT) : Exs → Loc → XK → Sto → (List D → Sto → Prop) → Prop
  | .nil, _, _, S, K => K [] S
  | .cons e es, σ, E, S, K => exW C e σ E S fun x S1 => exsW C es σ E S1 fun l S2 => K (x :: l) S2
/-- a part of a slice -/
def oeW (C : CallT) : Oe → Loc → XK → Sto → (Option Int → Sto → Prop) → Prop
  | .no, _, _, S, K => K none S
  | .yes e, σ, E, S, K => exW C e σ E S fun x S1 => ∃ i, x = .int i ∧ K (some i) S1
/-- a comprehension's test -/
def ocW (C : CallT) : Oe → Loc → Sto → (Bool → Sto → Prop) → Prop
  | .no, _, S, K => K true S
  | .yes e, σ, S, K => exW C e σ noX S fun x S1 => ofO (truth? S1 x) fun b => K b S1
def itW (C : CallT) : It → Loc → XK → Sto → (List D → (Sto → Prop) → Sto → Prop) → Prop
  | .val e, σ, E, S, K => exW C e σ E S fun x S1 => itvW x S1 fun l chk => K l chk S1
  | .rg1 a, σ, E, S, K => exW C a σ E S fun x S1 => ∃ i, x = .int i ∧ small62 i ∧ K ((List.range i.toNat).map fun (k : Nat) => .int k) (fun _ => True) S1
  | .rg2 a b, σ, E, S, K => exW C a σ E S fun x S1 => exW C b σ E S1 fun y S2 => ∃ i j, x = .int i ∧ y = .int j ∧ small62 i ∧ small62 j ∧
      K ((List.range (j - i).toNat).map fun (k : Nat) => .int (i + k)) (fun _ => True) S2
  | .rgd a b, σ, E, S, K => exW C a σ E S fun x S1 => exW C b σ E S1 fun y S2 => ∃ i j, x = .int i ∧ y = .int j ∧ small62 i ∧ small62 j ∧
      K ((List.range (i - j).toNat).map fun (k : Nat) => .int (i - k)) (fun _ => True) S2
  | .enum e, σ, E, S, K => exW C e σ E S fun x S1 => itlW x S1 fun l chk => K (l.zipIdx.map fun p => .tup [.int p.2, p.1]) chk S1
  | .zip a b, σ, E, S, K => exW C a σ E S fun x S1 => exW C b σ E S1 fun y S2 => zipW x y S2 fun l chk => K l chk S2
  | .rev e, σ, E, S, K => exW C e σ E S fun x S1 => itvW x S1 fun l chk => K l.reverse chk S1
end

/-! ### statements -/
structure Ks where
  nx : Loc → Sto → Prop
  rt : DK
  bk : Loc → Sto → Prop
  ct : Loc → Sto → Prop
  ex : Xc → Loc → Sto → Prop
def Ks.at (D : Ks) (σ : Loc) : XK := fun x S => D.ex x σ S
def subW (a i v : D) (S : Sto) (K : Sto → Prop) : Prop :=
  match a, i with
  | .ref n, i => match S n, i with
    | some (.lst l), .int k => ofO (ixn l.length k) fun j => K (put S n (.lst (l.set j v)))
    | some (.dic kv), k => isKey k = true ∧ kv.length < line ∧ K (put S n (.dic (putk kv k v)))
    | _, _ => False
  | _, _ => False
def asgW (C : CallT) (t : Lt) (e : Ex) (σ : Loc) (S : Sto) (D : Ks) : Prop :=
  match t with
  | .tg t => exW C e σ (D.at σ) S fun x S1 => tgW t x σ fun σ' => D.nx σ' S1
  | .sub a i => exW C e σ (D.at σ) S fun x S1 => exW C a σ (D.at σ) S1 fun o S2 => exW C i σ (D.at σ) S2 fun k S3 => subW o k x S3 fun S4 => D.nx σ S4
mutual
def sxW (C : CallT) : Sx → Loc → Sto → Ks → Prop
  | .asg t e, σ, S, D => asgW C t e σ S D
  | .aug i op e, σ, S, D => ∃ x, σ[i]? = some (some x) ∧ exW C e σ (D.at σ) S fun y S1 => augW op x y S1 fun z S2 => D.nx (σ.set i (some z)) S2
  | .augs a i op e, σ, S, D => exW C a σ (D.at σ) S fun o S1 => exW C i σ (D.at σ) S1 fun k S2 => idxW o k S2 fun x => exW C e σ (D.at σ) S2 fun y S3 =>
      augW op x y S3 fun z S4 => subW o k z S4 fun S5 => D.nx σ S5
  | .exp e, σ, S, D => exW C e σ (D.at σ) S fun _ S1 => D.nx σ S1
  | .ret e, σ, S, D => exW C e σ (D.at σ) S D.rt
  | .retn, _, S, D => D.rt .non S
  | .iff c a b, σ, S, D => exW C c σ (D.at σ) S fun x S1 => ofO (truth? S1 x) fun k => if k = true then sxsW C a σ S1 D else sxsW C b σ S1 D
  | .whl c b, σ, S, D => ∃ W : Nat → Loc → Sto → Prop, (∃ m, W m σ S) ∧ ∀ m σ S, W m σ S → exW C c σ (D.at σ) S fun x S1 => ofO (truth? S1 x) fun k =>
      if k = true then sxsW C b σ S1 { D with nx := fun σ' S' => ∃ m', m' < m ∧ W m' σ' S', ct := fun σ' S' => ∃ m', m' < m ∧ W m' σ' S', bk := D.nx } else D.nx σ S1
  | .for tg it b, σ, S, D => itW C it σ (D.at σ) S fun l chk S1 => forW chk (fun d σ S K => tgW tg d σ fun σ' => sxsW C b σ' S { D with nx := K, ct := K, bk := D.nx }) l σ S1 D.nx
  | .brk, σ, S, D => D.bk σ S
  | .cnt, σ, S, D => D.ct σ S
  | .pss, σ, S, D => D.nx σ S
def sxsW (C : CallT) : Sxs → Loc → Sto → Ks → Prop
  | .nil, σ, S, D => D.nx σ S
  | .cons s ss, σ, S, D => sxW C s σ S { D with nx := fun σ' S' => sxsW C ss σ' S' D }
end
/-- a def called: what it leaves behind may be forgotten in part -/
def bodyW (C : CallT) (d : Df) (as : List D) (S : Sto) (K : DK) (E : XK) : Prop :=
  as.length = d.np ∧ sxsW C d.body (as.map some ++ List.replicate (d.nn - d.np) none) S
    ⟨fun _ S' => ∃ S'', Sub S'' S' ∧ K .non S'', fun x S' => ∃ S'', Sub S'' S' ∧ K x S'', fun _ _ => False, fun _ _ => False, fun x _ S' => ∃ S'', Sub S'' S' ∧ E x S''⟩
def callW (p : Prog) : Nat → CallT
  | 0 => fun _ _ _ _ _ => False
  | n + 1 => fun f as S K E => match p f with
    | some d => bodyW (callW p n) d as S K E
    | none => False
/-- what the law's def is to answer, of each script -/
def LawW (P : Prog) (k most : Nat) (nm : Str) : Prop := ∀ ns : List Int, ns.length ≤ most → (∀ z ∈ ns, z.natAbs.log2 < 1048576) →
  callW P k nm [.fz (ns.map .int)] (fun _ => none) (fun d _ => d = .bl true) (fun _ _ => False)
end Ev
set_option Elab.async false
set_option linter.all false
set_option maxRecDepth 100000
/-! EvB1: what plain data stands for in the layer's heap. -/
namespace Ev
open PySem PySem.Spec PyProof.Rows L2

/-- a list that nobody changes -/
def FzL (K : PySem.W.Frag) (H : Hp) (a : Addr) (xs : List V) : Prop :=
  (∃ o, H a = some (.frz o (.lst xs))) ∨ (∃ (o : Obj) (its : Array Value) (n : Nat), K.lookup a = some o ∧ o.cls = .type "list" ∧ o.dict = none ∧ o.data = .seq its n ∧ its.size ≤ sizeLine ∧ Vals xs its.toList)

mutual
inductive RV (K : PySem.W.Frag) (H : Hp) : D → V → Prop
  | non : RV K H .non .non
  | bl (b : Bool) : RV K H (.bl b) (.bl b)
  | int (i : Int) : RV K H (.int i) (.int i)
  | str (s : Str) : RV K H (.str s) (.str s)
  | tup {ds : List D} {a : Addr} {xs : List V} : SqT K H a xs → RVs K H ds xs → RV K H (.tup ds) (.ref a)
  | fz {ds : List D} {a : Addr} {xs : List V} : FzL K H a xs → RVs K H ds xs → RV K H (.fz ds) (.ref a)
  | ref (a : Nat) : RV K H (.ref a) (.ref a)
inductive RVs (K : PySem.W.Frag) (H : Hp) : List D → List V → Prop
  | nil : RVs K H [] []
  | cons {d : D} {ds : List D} {v : V} {vs : List V} : RV K H d v → RVs K H ds vs → RVs K H (d :: ds) (v :: vs)
end
/-- a dict's pairs -/
def kd : Key → D
  | .inl i => .int i
  | .inr s => .str s
inductive RKs (K : PySem.W.Frag) (H : Hp) : List (D × D) → List (Key × V) → Prop
  | nil : RKs K H [] []
  | cons (k : Key) {d : D} {v : V} {l : List (D × D)} {kv : List (Key × V)} : RV K H d v → RKs K H l kv → RKs K H ((kd k, d) :: l) ((k, v) :: kv)
/-- an object -/
def RO (K : PySem.W.Frag) (H : Hp) (a : Nat) : AO → Prop
  | .lst l => ∃ vs, H a = some (.lst vs) ∧ RVs K H l vs
  | .dic l => ∃ kv, H a = some (.dK kv) ∧ RKs K H l kv
  | .ins _ _ => False
def RepS (K : PySem.W.Frag) (S : Sto) (H : Hp) : Prop := ∀ a o, S a = some o → RO K H a o
/-- what went by -/
structure Ext (S : Sto) (H : Hp) (S' : Sto) (H' : Hp) : Prop where
  keep : ∀ a o, S a = none → H a = some o → H' a = some o
  away : ∀ a, S a = none → H a ≠ none → S' a = none

variable {K : PySem.W.Frag} {S S' S1 S2 : Sto} {H H' H1 H2 : Hp}
theorem Ext.refl : Ext S H S H := ⟨fun _ _ _ e => e, fun _ e _ => e⟩
theorem Ext.trans (a : Ext S H S1 H1) (b : Ext S1 H1 S2 H2) : Ext S H S2 H2 := by
  refine ⟨fun c o n e => ?_, fun c n e => ?_⟩
  · exact b.keep c o (a.away c n (by rw [e]; simp)) (a.keep c o n e)
  · cases h : H c with
    | none => exact absurd h e
    | some o => exact b.away c (a.away c n e) (by rw [a.keep c o n h]; simp)
theorem RepS.ne (r : RepS K S H) {a : Nat} (h : H a = none) : S a = none := by
  cases e : S a with
  | none => rfl
  | some o =>
    have q := r a o e
    cases o with
    | lst l => obtain ⟨vs, z, _⟩ := q; rw [h] at z; cases z
    | dic l => obtain ⟨vs, z, _⟩ := q; rw [h] at z; cases z
    | ins c f => exact q.elim
theorem RepS.tup (r : RepS K S H) {a : Nat} {xs : List V} (h : H a = some (.tup xs)) : S a = none := by
  cases e : S a with
  | none => rfl
  | some o =>
    have q := r a o e
    cases o with
    | lst l => obtain ⟨vs, z, _⟩ := q; rw [h] at z; cases z
    | dic l => obtain ⟨vs, z, _⟩ := q; rw [h] at z; cases z
    | ins c f => exact q.elim
theorem RepS.frz (r : RepS K S H) {a : Nat} {o : Obj} {u : HO} (h : H a = some (.frz o u)) : S a = none := by
  cases e : S a with
  | none => rfl
  | some o =>
    have q := r a o e
    cases o with
    | lst l => obtain ⟨vs, z, _⟩ := q; rw [h] at z; cases z
    | dic l => obtain ⟨vs, z, _⟩ := q; rw [h] at z; cases z
    | ins c f => exact q.elim
/-- the tuples and the locked things stay -/
structure Stay (H H' : Hp) : Prop where
  tup : ∀ a xs, H a = some (.tup xs) → H' a = some (.tup xs)
  frz : ∀ a o u, H a = some (.frz o u) → H' a = some (.frz o u)
theorem Stay.refl : Stay H H := ⟨fun _ _ e => e, fun _ _ _ e => e⟩
theorem Stay.trans (a : Stay H H1) (b : Stay H1 H2) : Stay H H2 := ⟨fun c xs e => b.tup c xs (a.tup c xs e), fun c o u e => b.frz c o u (a.frz c o u e)⟩
theorem Ext.stay (r : RepS K S H) (x : Ext S H S' H') : Stay H H' := ⟨fun a xs h => x.keep a _ (r.tup h) h, fun a o u h => x.keep a _ (r.frz h) h⟩
theorem Stay.sqT (st : Stay H H') {a : Addr} {xs : List V} (h : SqT K H a xs) : SqT K H' a xs := by
  rcases h with (h | ⟨o, h⟩) | h
  · exact .inl (.inl (st.tup _ _ h))
  · exact .inl (.inr ⟨o, st.frz _ _ _ h⟩)
  · exact .inr h
theorem Stay.fzL (st : Stay H H') {a : Addr} {xs : List V} (h : FzL K H a xs) : FzL K H' a xs := by
  rcases h with ⟨o, h⟩ | h
  · exact .inl ⟨o, st.frz _ _ _ h⟩
  · exact .inr h
theorem FzL.sq {a : Addr} {xs : List V} (h : FzL K H a xs) : SqL K H a xs := by
  rcases h with ⟨o, h⟩ | h
  · exact .inl (.inr ⟨o, h⟩)
  · exact .inr h
mutual
theorem RV.mono (st : Stay H H') : ∀ {d : D} {v : V}, RV K H d v → RV K H' d v
  | _, _, .non => .non
  | _, _, .bl b => .bl b
  | _, _, .int i => .int i
  | _, _, .str s => .str s
  | _, _, .tup h r => .tup (st.sqT h) (RVs.mono st r)
  | _, _, .fz h r => .fz (st.fzL h) (RVs.mono st r)
  | _, _, .ref a => .ref a
theorem RVs.mono (st : Stay H H') : ∀ {d : List D} {v : List V}, RVs K H d v → RVs K H' d v
  | _, _, .nil => .nil
  | _, _, .cons r t => .cons (RV.mono st r) (RVs.mono st t)
end
theorem RKs.mono (st : Stay H H') {l : List (D × D)} {kv : List (Key × V)} (h : RKs K H l kv) : RKs K H' l kv := by
  induction h with
  | nil => exact .nil
  | cons k r _ ih => exact .cons k (r.mono st) ih
theorem RVs.len : ∀ {d : List D} {v : List V}, RVs K H d v → d.length = v.length
  | _, _, .nil => rfl
  | _, _, .cons _ t => congrArg Nat.succ (RVs.len t)
theorem RVs.get : ∀ {d : List D} {v : List V} {i : Nat} {x : D}, RVs K H d v → d[i]? = some x → ∃ y, v[i]? = some y ∧ RV K H x y
  | _, _, _, _, .nil, e => by simp at e
  | _, _, 0, _, .cons r _, e => by simp at e; subst e; exact ⟨_, rfl, r⟩
  | _, _, i + 1, x, .cons _ t, e => by
    obtain ⟨y, h1, h2⟩ := RVs.get (i := i) (x := x) t (by simpa using e)
    exact ⟨y, by simpa using h1, h2⟩
theorem RVs.app : ∀ {d d' : List D} {v v' : List V}, RVs K H d v → RVs K H d' v' → RVs K H (d ++ d') (v ++ v')
  | _, _, _, _, .nil, s => s
  | _, _, _, _, .cons r t, s => .cons r (RVs.app t s)
theorem RVs.take : ∀ {d : List D} {v : List V} (n : Nat), RVs K H d v → RVs K H (d.take n) (v.take n)
  | _, _, 0, _ => .nil
  | _, _, _ + 1, .nil => .nil
  | _, _, n + 1, .cons r t => .cons r (RVs.take n t)
theorem RVs.drop : ∀ {d : List D} {v : List V} (n : Nat), RVs K H d v → RVs K H (d.drop n) (v.drop n)
  | _, _, 0, r => r
  | _, _, _ + 1, .nil => .nil
  | _, _, n + 1, .cons _ t => RVs.drop n t
theorem RVs.set {x : D} {y : V} (r : RV K H x y) : ∀ {d : List D} {v : List V} (i : Nat), RVs K H d v → RVs K H (d.set i x) (v.set i y)
  | _, _, _, .nil => .nil
  | _, _, 0, .cons _ t => .cons r t
  | _, _, i + 1, .cons q t => .cons q (RVs.set r i t)
theorem RVs.erase : ∀ {d : List D} {v : List V} (i : Nat), RVs K H d v → RVs K H (d.eraseIdx i) (v.eraseIdx i)
  | _, _, _, .nil => .nil
  | _, _, 0, .cons _ t => t
  | _, _, i + 1, .cons q t => .cons q (RVs.erase i t)
theorem RVs.ints : ∀ {d : List D} {v : List V} {z : List Int}, RVs K H d v → ints? d = some z → v = z.map V.int
  | _, _, z, .nil, e => by
    have e' : some ([] : List Int) = some z := e
    cases e'; rfl
  | _, _, z, .cons (d := x) (ds := ds) r t, e => by
    cases r with
    | int i =>
      have e' : (ints? ds).map (i :: ·) = some z := e
      cases h : ints? ds with
      | none => rw [h] at e'; cases e'
      | some y =>
        rw [h] at e'
        cases e'
        rw [RVs.ints t h]; rfl
    | _ => cases e
theorem RVs.bls : ∀ {d : List D} {v : List V} {z : List Bool}, RVs K H d v → bls? d = some z → v = z.map V.bl
  | _, _, z, .nil, e => by
    have e' : some ([] : List Bool) = some z := e
    cases e'; rfl
  | _, _, z, .cons (d := x) (ds := ds) r t, e => by
    cases r with
    | bl i =>
      have e' : (bls? ds).map (i :: ·) = some z := e
      cases h : bls? ds with
      | none => rw [h] at e'; cases e'
      | some y =>
        rw [h] at e'
        cases e'
        rw [RVs.bls t h]; rfl
    | _ => cases e
/-- the store with an object more, or changed -/
theorem RO.mono (st : Stay H H') {a : Nat} {o : AO} (hk : ∀ u, H a = some u → H' a = some u) (h : RO K H a o) : RO K H' a o := by
  cases o with
  | lst l => obtain ⟨vs, e, r⟩ := h; exact ⟨vs, hk _ e, r.mono st⟩
  | dic l => obtain ⟨kv, e, r⟩ := h; exact ⟨kv, hk _ e, r.mono st⟩
  | ins c f => exact h.elim
theorem stay_new {p : Nat} {u : HO} (hp : H p = none) : Stay H (L2.upd H p u) :=
  ⟨fun a xs e => by rw [L2.upd_ne (L2.ne_of_none e hp)]; exact e, fun a o w e => by rw [L2.upd_ne (L2.ne_of_none e hp)]; exact e⟩
theorem stay_old {p : Nat} {u w : HO} (hp : H p = some w) (m : Mut (some w)) : Stay H (L2.upd H p u) := by
  refine ⟨fun a xs e => ?_, fun a o z e => ?_⟩
  · rw [L2.upd_ne (L2.ne_of e hp (by rintro rfl; exact m))]; exact e
  · rw [L2.upd_ne (L2.ne_of e hp (by rintro rfl; exact m))]; exact e
/-- an object unknown to the store is made -/
theorem RepS.free (r : RepS K S H) {p : Nat} {u : HO} (hp : H p = none) : RepS K S (L2.upd H p u) := fun a o e =>
  (r a o e).mono (stay_new hp) fun w q => by rw [L2.upd_ne (L2.ne_of_none q hp)]; exact q
theorem Ext.free (r : RepS K S H) {p : Nat} {u : HO} (hp : H p = none) : Ext S H S (L2.upd H p u) :=
  ⟨fun a o _ e => by rw [L2.upd_ne (L2.ne_of_none e hp)]; exact e, fun a n _ => n⟩
theorem put_same {p : Nat} {o : AO} : put S p o p = some o := by unfold put; rw [if_pos rfl]
theorem put_ne {p q : Nat} {o : AO} (h : q ≠ p) : put S p o q = S q := by unfold put; rw [if_neg h]
/-- a known object is made -/
theorem RepS.made (r : RepS K S H) {p : Nat} {u : HO} {o : AO} (hp : H p = none) (ho : RO K (L2.upd H p u) p o) : RepS K (put S p o) (L2.upd H p u) := fun a q e => by
  by_cases h : a = p
  · subst h; rw [put_same] at e; cases e; exact ho
  · rw [put_ne h] at e; exact r.free hp a q e
theorem Ext.made (r : RepS K S H) {p : Nat} {u : HO} {o : AO} (hp : H p = none) : Ext S H (put S p o) (L2.upd H p u) :=
  ⟨fun a w _ e => by rw [L2.upd_ne (L2.ne_of_none e hp)]; exact e, fun a n e => by
    rw [put_ne (by rintro rfl; exact e hp)]; exact n⟩
/-- a known object is changed -/
theorem RepS.wrote (r : RepS K S H) {p : Nat} {u w : HO} {o o' : AO} (hS : S p = some o') (hp : H p = some w) (m : Mut (some w)) (ho : RO K (L2.upd H p u) p o) : RepS K (put S p o) (L2.upd H p u) := fun a q e => by
  by_cases h : a = p
  · subst h; rw [put_same] at e; cases e; exact ho
  · rw [put_ne h] at e
    exact (r a q e).mono (stay_old hp m) fun w q => by rw [L2.upd_ne h]; exact q
theorem Ext.wrote {p : Nat} {u w : HO} {o o' : AO} (hS : S p = some o') (hp : H p = some w) : Ext S H (put S p o) (L2.upd H p u) :=
  ⟨fun a z n e => by
    rw [L2.upd_ne (by rintro rfl; rw [hS] at n; cases n)]; exact e, fun a n _ => by
    rw [put_ne (by rintro rfl; rw [hS] at n; cases n)]; exact n⟩
theorem RepS.sub (r : RepS K S H) (s : Sub S' S) : RepS K S' H := fun a o e => r a o (s a o e)
theorem Ext.sub {T : Sto} (x : Ext S H S' H') (s : Sub T S') : Ext S H T H' := ⟨x.keep, fun a n e => by
  cases q : T a with
  | none => rfl
  | some o => have z := s a o q; rw [x.away a n e] at z; cases z⟩
end Ev
set_option Elab.async false
set_option linter.all false
set_option maxRecDepth 100000
set_option maxHeartbeats 1000000
/-! EvB2: operators on plain data are the machine's. -/
namespace Ev
open PySem PySem.Spec PyProof.Rows L2

theorem line_eq : line = sizeLine := by rw [sizeLine_eq]; rfl
theorem band_eq (x y : Int) : band x y = Builtin.bitAnd x y := by
  unfold band Builtin.bitAnd bnot Builtin.bitNot
  by_cases hx : 0 ≤ x <;> by_cases hy : 0 ≤ y <;> simp [hx, hy]
theorem bor_eq (x y : Int) : bor x y = Builtin.bitOr x y := by
  unfold bor Builtin.bitOr
  rw [band_eq]; rfl
theorem bxor_eq (x y : Int) : bxor x y = Builtin.bitXor x y := by
  unfold bxor Builtin.bitXor
  rw [band_eq, bor_eq]
theorem ixn_eq (n : Nat) (i : Int) : ixn n i = ixN n i := by
  unfold ixn ixN
  by_cases h : 0 ≤ i
  · rw [if_pos h, if_pos h]; rfl
  · rw [if_neg h, if_neg h]
    have e : (0 ≤ i + Int.ofNat n) ↔ -(n : Int) ≤ i := by
      show (0 ≤ i + (n : Int)) ↔ _
      omega
    by_cases q : -(n : Int) ≤ i
    · rw [if_pos q, if_pos (e.mpr q)]; rfl
    · rw [if_neg q, if_neg (fun z => q (e.mp z))]
theorem six_eq (n d : Nat) (o : Option Int) : six n d o = HT.sIx n d o := by
  cases o <;> rfl

section
variable {K : PySem.W.Frag} {S S' : Sto} {H H' : Hp}
theorem RVs.nth {d : List D} {v : List V} {i : Int} {x : D} (r : RVs K H d v) (e : Ev.nth d i = some x) : ∃ y, atI v i = some y ∧ RV K H x y := by
  unfold Ev.nth at e
  unfold atI
  rw [ixn_eq, r.len] at e
  cases h : ixN v.length i with
  | none => rw [h] at e; cases e
  | some j =>
    rw [h] at e
    exact r.get (show d[j]? = some x from e)
theorem RVs.cut {d : List D} {v : List V} (r : RVs K H d v) (lo hi : Option Int) : RVs K H (Ev.cut d lo hi) (cutV v lo hi) := by
  unfold Ev.cut cutV
  rw [six_eq, six_eq, r.len]
  exact (r.drop _).take _

/-! ### data compared -/
mutual
def pd : D → PyData
  | .non => .none
  | .bl b => .bool b
  | .int i => .int i
  | .str s => .str s
  | .tup l => .tuple (pds l)
  | .fz l => .list (pds l)
  | .ref _ => .none
def pds : List D → List PyData
  | [] => []
  | d :: r => pd d :: pds r
end
theorem fin_cons {n : Nat} {d : D} {l : List D} (h : (d :: l).all (fin n) = true) : fin n d = true ∧ l.all (fin n) = true := by
  rw [List.all_cons, Bool.and_eq_true] at h
  exact h
theorem strok_ok {s : Str} (h : strok s = true) : PyData.strOk s = true := h
mutual
theorem fin_dp : ∀ {n : Nat} {d : D} {v : V}, RV K H d v → fin n d = true → Dp K H v (pd d)
  | _, _, _, .non, _ => by rw [pd]; exact .non
  | _, _, _, .bl b, _ => by rw [pd]; exact .bl b
  | _, _, _, .int i, _ => by rw [pd]; exact .int i
  | _, _, _, .str s, _ => by rw [pd]; exact .str s
  | 0, _, _, .tup h r, f => by simp [fin] at f
  | n + 1, _, _, .tup h r, f => by
    rw [pd]
    exact .tup h (fin_dps r (by simpa only [fin] using f))
  | n, _, _, .fz h r, f => by cases n <;> simp [fin] at f
  | n, _, _, .ref a, f => by cases n <;> simp [fin] at f
theorem fin_dps : ∀ {n : Nat} {l : List D} {vs : List V}, RVs K H l vs → l.all (fin n) = true → DpAll K H vs (pds l)
  | _, _, _, .nil, _ => by rw [pds]; exact .nil
  | n, _, _, .cons r t, f => by
    rw [pds]
    exact .cons (fin_dp r (fin_cons f).1) (fin_dps t (fin_cons f).2)
end
mutual
theorem fin_lay : ∀ {n : Nat} {d : D}, fin n d = true → (pd d).canLay0 = true ∧ (pd d).depth ≤ n
  | n, .non, _ => by simp [pd, PyData.canLay0, PyData.depth]
  | n, .bl b, _ => by simp [pd, PyData.canLay0, PyData.depth]
  | n, .int i, _ => by simp [pd, PyData.canLay0, PyData.depth]
  | n, .str s, f => by
    have f' : strok s = true := by cases n <;> simpa only [fin] using f
    simp only [pd, PyData.canLay0, PyData.depth]
    exact ⟨f', Nat.zero_le _⟩
  | 0, .tup l, f => by simp [fin] at f
  | n + 1, .tup l, f => by
    obtain ⟨h1, h2⟩ := fin_lays (n := n) (l := l) (by simpa only [fin] using f)
    simp only [pd, PyData.canLay0, PyData.depth]
    exact ⟨h1, by omega⟩
  | n, .fz l, f => by cases n <;> simp [fin] at f
  | n, .ref a, f => by cases n <;> simp [fin] at f
theorem fin_lays : ∀ {n : Nat} {l : List D}, l.all (fin n) = true → PyData.canLayAll0 (pds l) = true ∧ PyData.depthAll (pds l) ≤ n
  | n, [], _ => by simp [pds, PyData.canLayAll0, PyData.depthAll]
  | n, d :: l, f => by
    obtain ⟨a1, a2⟩ := fin_lay (fin_cons f).1
    obtain ⟨b1, b2⟩ := fin_lays (fin_cons f).2
    simp only [pds, PyData.canLayAll0, PyData.depthAll, Bool.and_eq_true]
    exact ⟨⟨a1, b1⟩, by omega⟩
end
theorem fin_shaped {d : D} (f : fin 12 d = true) : SeqAt.shaped (pd d) = true := by
  obtain ⟨h1, h2⟩ := fin_lay f
  unfold SeqAt.shaped
  rw [Bool.and_eq_true, decide_eq_true_eq]
  exact ⟨h1, by omega⟩
theorem fin_shapedL {l : List D} (f : l.all (fin 12) = true) : SeqAt.shaped (.list (pds l)) = true := by
  obtain ⟨h1, h2⟩ := fin_lays f
  unfold SeqAt.shaped
  rw [Bool.and_eq_true, decide_eq_true_eq]
  simp only [PyData.canLay0, PyData.depth]
  exact ⟨h1, by omega⟩
theorem fin_shapedT {l : List D} (f : l.all (fin 12) = true) : SeqAt.shaped (.tuple (pds l)) = true := by
  obtain ⟨h1, h2⟩ := fin_lays f
  unfold SeqAt.shaped
  rw [Bool.and_eq_true, decide_eq_true_eq]
  simp only [PyData.canLay0, PyData.depth]
  exact ⟨h1, by omega⟩
mutual
theorem eqF_eqv : ∀ {n : Nat} {a b : D}, fin n a = true → fin n b = true → PyData.eqv (pd a) (pd b) = eqF n a b
  | n, .non, b, _, fb => by cases b <;> cases n <;> first | (simp [fin] at fb; done) | simp [pd, PyData.eqv, eqF]
  | n, .bl x, b, _, fb => by cases b <;> cases n <;> first | (simp [fin] at fb; done) | simp [pd, PyData.eqv, eqF, b2]
  | n, .int x, b, _, fb => by cases b <;> cases n <;> first | (simp [fin] at fb; done) | simp [pd, PyData.eqv, eqF, b2]
  | n, .str x, b, _, fb => by
    cases b with
    | str y =>
      have e : (x == y) = decide (x = y) := by rw [Bool.eq_iff_iff]; simp
      cases n <;> simp only [pd, PyData.eqv, eqF, e]
    | _ => cases n <;> first | (simp [fin] at fb; done) | simp [pd, PyData.eqv, eqF]
  | 0, .tup l, b, fa, _ => by simp [fin] at fa
  | n + 1, .tup l, b, fa, fb => by
    cases b with
    | tup m =>
      simp only [pd, PyData.eqv, eqF]
      exact eqFs_eqv (by simpa only [fin] using fa) (by simpa only [fin] using fb)
    | _ => first | (simp [fin] at fb; done) | simp [pd, PyData.eqv, eqF]
  | n, .fz l, b, fa, _ => by cases n <;> simp [fin] at fa
  | n, .ref x, b, fa, _ => by cases n <;> simp [fin] at fa
theorem eqFs_eqv : ∀ {n : Nat} {a b : List D}, a.all (fin n) = true → b.all (fin n) = true → PyData.eqvAll (pds a) (pds b) = allF (eqF n) a b
  | n, [], [], _, _ => by simp [pds, PyData.eqvAll, allF]
  | n, [], _ :: _, _, _ => by simp [pds, PyData.eqvAll, allF]
  | n, _ :: _, [], _, _ => by simp [pds, PyData.eqvAll, allF]
  | n, x :: a, y :: b, fa, fb => by
    simp only [pds, PyData.eqvAll, allF]
    rw [eqF_eqv (fin_cons fa).1 (fin_cons fb).1, eqFs_eqv (fin_cons fa).2 (fin_cons fb).2]
end
end
end Ev
set_option Elab.async false
set_option linter.all false
set_option maxRecDepth 100000
set_option maxHeartbeats 1000000
/-! EvB3: the binary operators, comparisons, truth. -/
namespace Ev
open PySem PySem.Spec PyProof.Rows L2

/-- what is wanted behind a step that ends by a value -/
def Aft (K : PySem.W.Frag) (S : Sto) (H : Hp) (Kk : DK) (Q : VK) : Prop := ∀ d S' v H', Kk d S' → Ext S H S' H' → RepS K S' H' → RV K H' d v → Q v H'
theorem Aft.self {K : PySem.W.Frag} {S : Sto} {H : Hp} {Kk : DK} {Q : VK} (a : Aft K S H Kk Q) (r : RepS K S H) {d : D} {v : V} (k : Kk d S) (rv : RV K H d v) : Q v H := a d S v H k Ext.refl r rv
/-- a new tuple -/
theorem Aft.tup {K : PySem.W.Frag} {S : Sto} {H : Hp} {Kk : DK} {Q : VK} (a : Aft K S H Kk Q) (r : RepS K S H) {l : List D} {vs : List V} (k : Kk (.tup l) S) (rv : RVs K H l vs) {p : Addr} (hp : H p = none) : Q (.ref p) (L2.upd H p (.tup vs)) :=
  a _ S _ _ k (Ext.free r hp) (r.free hp) (.tup (.inl (.inl upd_same)) (rv.mono (stay_new hp)))
/-- a new list -/
theorem Aft.lst {K : PySem.W.Frag} {S : Sto} {H : Hp} {Kk : DK} {Q : VK} (a : Aft K S H Kk Q) (r : RepS K S H) {l : List D} {vs : List V} (k : ∀ p, S p = none → Kk (.ref p) (put S p (.lst l))) (rv : RVs K H l vs) {p : Addr} (hp : H p = none) : Q (.ref p) (L2.upd H p (.lst vs)) :=
  a _ _ _ _ (k p (r.ne hp)) (Ext.made r hp) (r.made hp ⟨vs, upd_same, rv.mono (stay_new hp)⟩) (.ref p)
/-- a list changed -/
theorem Aft.wrote {K : PySem.W.Frag} {S : Sto} {H : Hp} {Kk : DK} {Q : VK} (a : Aft K S H Kk Q) (r : RepS K S H) {n : Nat} {l l' : List D} {vs vs' : List V} (hS : S n = some (.lst l)) (hH : H n = some (.lst vs)) {d : D} {v : V} (k : Kk d (put S n (.lst l')))
    (rv : RVs K H l' vs') (rd : RV K H d v) : Q v (L2.upd H n (.lst vs')) := by
  have st : Stay H (L2.upd H n (.lst vs')) := stay_old hH trivial
  exact a _ _ _ _ k (Ext.wrote hS hH) (r.wrote hS hH trivial ⟨vs', upd_same, rv.mono st⟩) (rd.mono st)

def bopOf : Bop → Operator
  | .add => .Add | .sub => .Sub | .mul => .Mult | .fdiv => .FloorDiv | .mod => .Mod | .pow => .Pow | .shl => .LShift | .shr => .RShift | .and => .BitAnd | .or => .BitOr | .xor => .BitXor
def rBin (K : PySem.W.Frag) (op : Bop) : R2 := fun x y H Q => ∃ a b S Kk, RV K H a x ∧ RV K H b y ∧ RepS K S H ∧ binW op a b S Kk ∧ Aft K S H Kk Q
section
variable {X : Cx}
theorem OpR.imp {f : Value → Value → Sem Value} {r r' : R2} (h : OpR X f r) (hi : ∀ x y H Q, r' x y H Q → r x y H Q) : OpR X f r' :=
  fun pins s σ H x y v u Q I rx ry q => h pins s σ H x y v u Q I rx ry (hi x y H Q q)
theorem mulOk_ok {i j : Int} (h : mulOk i j) : CMulX i j := by
  have b : ∀ x : Int, Builtin.Int.intBits x ≤ x.natAbs.log2 + 1 := fun x => by
    unfold Builtin.Int.intBits
    split <;> omega
  have h1 := b i
  have h2 := b j
  unfold mulOk at h
  unfold CMulX
  omega
theorem lst_of {K : PySem.W.Frag} {S : Sto} {H : Hp} (r : RepS K S H) {n : Nat} {l : List D} (h : S n = some (.lst l)) : ∃ vs, H n = some (.lst vs) ∧ RVs K H l vs := r n _ h
theorem rvs_rep {K : PySem.W.Frag} {H : Hp} {l : List D} {vs : List V} (r : RVs K H l vs) : ∀ k : Nat, RVs K H (List.replicate k l).flatten (List.replicate k vs).flatten
  | 0 => .nil
  | k + 1 => by
    rw [List.replicate_succ, List.replicate_succ, List.flatten_cons, List.flatten_cons]
    exact r.app (rvs_rep r k)
theorem op_bin (op : Bop) : OpR X (binaryOp (bopOf op)) (rBin X.K op) := by
  intro pins s σ H x y v u Q I rx ry ⟨a, b, S, Kk, ra, rb, rs, h, aft⟩
  cases op with
  | add =>
    cases ra with
    | int i =>
      cases rb with
      | int j => exact op_add pins s σ H _ _ v u Q I rx ry ⟨i, j, rfl, rfl, aft.self rs h (.int _)⟩
      | bl j => exact op_add_ib pins s σ H _ _ v u Q I rx ry ⟨i, j, rfl, rfl, aft.self rs h (.int _)⟩
      | _ => exact h.elim
    | str z =>
      cases rb with
      | str t => exact op_add_str pins s σ H _ _ v u Q I rx ry ⟨z, t, rfl, rfl, by rw [← line_eq]; exact h.1, aft.self rs h.2 (.str _)⟩
      | _ => exact h.elim
    | @tup l p xs hp rl =>
      cases rb with
      | @tup m q ys hq rm =>
        refine op_catA pins s σ H _ _ v u Q I rx ry ⟨p, q, xs, ys, rfl, rfl, hp, hq, by rw [← line_eq, ← rl.len, ← rm.len]; exact h.1, fun e => ?_, fun e e2 => ?_, fun _ _ w hw => ?_⟩
        · subst e
          cases rl
          exact aft.self rs h.2 (.tup hq rm)
        · subst e2
          cases rm
          refine aft.self rs h.2 (.tup hp ?_)
          rw [List.append_nil]
          exact rl
        · exact aft.tup rs h.2 (rl.app rm) hw
      | _ => exact h.elim
    | ref m =>
      cases rb with
      | ref n =>
        obtain ⟨l, r, hl, hr, hz, k⟩ := h
        obtain ⟨xs, hx, rl⟩ := lst_of rs hl
        obtain ⟨ys, hy, rr⟩ := lst_of rs hr
        exact op_cat pins s σ H _ _ v u Q I rx ry ⟨m, n, xs, ys, rfl, rfl, hx, hy, by rw [← line_eq, ← rl.len, ← rr.len]; exact hz, fun p hp => aft.lst rs k (rl.app rr) hp⟩
      | _ => exact h.elim
    | _ => exact h.elim
  | sub =>
    cases ra with
    | int i =>
      cases rb with
      | int j => exact op_sub pins s σ H _ _ v u Q I rx ry ⟨i, j, rfl, rfl, aft.self rs h (.int _)⟩
      | _ => exact h.elim
    | _ => exact h.elim
  | mul =>
    cases ra with
    | int i =>
      cases rb with
      | int j => exact op_mulX pins s σ H _ _ v u Q I rx ry ⟨i, j, rfl, rfl, mulOk_ok h.1, aft.self rs h.2 (.int _)⟩
      | _ => exact h.elim
    | ref m =>
      cases rb with
      | int k =>
        obtain ⟨l, hl, k1, k2, hz, kk⟩ := h
        obtain ⟨xs, hx, rl⟩ := lst_of rs hl
        exact op_rep pins s σ H _ _ v u Q I rx ry ⟨m, k, xs, rfl, rfl, hx, by omega, by omega, by rw [← line_eq, ← rl.len]; exact hz, fun p hp => aft.lst rs kk (rvs_rep rl _) hp⟩
      | _ => exact h.elim
    | _ => exact h.elim
  | fdiv =>
    cases ra with
    | int i =>
      cases rb with
      | int j => exact op_fdivW pins s σ H _ _ v u Q I rx ry ⟨i, j, rfl, rfl, h.1, aft.self rs h.2 (.int _)⟩
      | _ => exact h.elim
    | _ => exact h.elim
  | mod =>
    cases ra with
    | int i =>
      cases rb with
      | int j => exact op_mod pins s σ H _ _ v u Q I rx ry ⟨i, j, rfl, rfl, h.1, aft.self rs h.2 (.int _)⟩
      | _ => exact h.elim
    | _ => exact h.elim
  | pow =>
    cases ra with
    | int i =>
      cases rb with
      | int j => exact op_pow pins s σ H _ _ v u Q I rx ry ⟨i, j, rfl, rfl, h.1, aft.self rs h.2 (.int _)⟩
      | _ => exact h.elim
    | _ => exact h.elim
  | shl =>
    cases ra with
    | int i =>
      cases rb with
      | int j => exact op_shl pins s σ H _ _ v u Q I rx ry ⟨i, j, rfl, rfl, h.1, aft.self rs h.2 (.int _)⟩
      | _ => exact h.elim
    | _ => exact h.elim
  | shr =>
    cases ra with
    | int i =>
      cases rb with
      | int j => exact op_shr pins s σ H _ _ v u Q I rx ry ⟨i, j, rfl, rfl, h.1, aft.self rs h.2 (.int _)⟩
      | _ => exact h.elim
    | _ => exact h.elim
  | and =>
    cases ra with
    | int i =>
      cases rb with
      | int j => exact op_and pins s σ H _ _ v u Q I rx ry ⟨i, j, rfl, rfl, aft.self rs h (by rw [band_eq]; exact .int _)⟩
      | _ => exact h.elim
    | _ => exact h.elim
  | or =>
    cases ra with
    | int i =>
      cases rb with
      | int j => exact op_or pins s σ H _ _ v u Q I rx ry ⟨i, j, rfl, rfl, aft.self rs h (by rw [bor_eq]; exact .int _)⟩
      | _ => exact h.elim
    | _ => exact h.elim
  | xor =>
    cases ra with
    | int i =>
      cases rb with
      | int j => exact op_xor pins s σ H _ _ v u Q I rx ry ⟨i, j, rfl, rfl, aft.self rs h (by rw [bxor_eq]; exact .int _)⟩
      | _ => exact h.elim
    | _ => exact h.elim

/-! ### truth -/
theorem rks_len {K : PySem.W.Frag} {H : Hp} {l : List (D × D)} {kv : List (Key × V)} (r : RKs K H l kv) : l.length = kv.length := by
  induction r with
  | nil => rfl
  | cons _ _ _ ih => exact congrArg Nat.succ ih
theorem emp_len {α β : Type} {l : List α} {m : List β} (h : l.length = m.length) : l.isEmpty = m.isEmpty := by
  cases l <;> cases m <;> simp at h ⊢
theorem truth_ok {K : PySem.W.Frag} {S : Sto} {H : Hp} (rs : RepS K S H) {d : D} {v : V} {b : Bool} (r : RV K H d v) (h : truth? S d = some b) : TruV K v H b := by
  cases r with
  | non => cases h; rfl
  | bl c => cases h; rfl
  | int i => cases h; rfl
  | str z =>
    simp only [truth?] at h
    by_cases q : z.length ≤ line
    · rw [if_pos q] at h
      cases h
      exact ⟨by rw [← line_eq]; exact q, rfl⟩
    · rw [if_neg q] at h; cases h
  | @tup l p xs hp rl =>
    cases h
    exact .inr (.inl ⟨xs, hp, by rw [emp_len rl.len]⟩)
  | fz hp rl => cases h
  | ref n =>
    simp only [truth?] at h
    cases e : S n with
    | none => rw [e] at h; cases h
    | some o =>
      rw [e] at h
      cases o with
      | lst l =>
        cases h
        obtain ⟨vs, e2, r⟩ := rs n _ e
        exact .inl ⟨vs, .of e2, by rw [emp_len r.len]⟩
      | dic l =>
        cases h
        obtain ⟨kv, e2, r⟩ := rs n _ e
        exact .inr (.inr ⟨kv, e2, by rw [emp_len (rks_len r)]⟩)
      | ins c f => cases h
end
end Ev
set_option Elab.async false
set_option linter.all false
set_option maxRecDepth 100000
set_option maxHeartbeats 1000000
/-! EvB4: comparisons, items, slices. -/
namespace Ev
open PySem PySem.Spec PyProof.Rows L2

def copOf : Cop → CmpOp
  | .lt => .Lt | .le => .LtE | .gt => .Gt | .ge => .GtE | .eq => .Eq | .ne => .NotEq | .is => .Is | .isnot => .IsNot | .inn => .In | .notin => .NotIn
def rCmp (K : PySem.W.Frag) (op : Cop) : R2 := fun x y H Q => ∃ a b S Kb, RV K H a x ∧ RV K H b y ∧ RepS K S H ∧ cmpW op a b S Kb ∧ ∀ c, Kb c → Q (.bl c) H
section
variable {K : PySem.W.Frag} {S : Sto} {H : Hp}
theorem flat_dp (rs : RepS K S H) {a d : D} {x : V} (ra : RV K H a x) (h : flat? S a = some d) (f : finT d = true) : Dp K H x (pd d) ∧ SeqAt.shaped (pd d) = true := by
  cases ra with
  | ref m =>
    simp only [flat?] at h
    cases e : S m with
    | none => rw [e] at h; cases h
    | some o =>
      rw [e] at h
      cases o with
      | lst l =>
        cases h
        obtain ⟨vs, e2, r⟩ := rs m _ e
        rw [pd]
        exact ⟨.lst (.of e2) (fin_dps r f), fin_shapedL f⟩
      | dic l => cases h
      | ins c f => cases h
  | fz h1 h2 => cases h
  | tup h1 h2 => cases h; exact ⟨fin_dp (.tup h1 h2) f, fin_shaped f⟩
  | non => cases h; exact ⟨fin_dp .non f, fin_shaped f⟩
  | bl b => cases h; exact ⟨fin_dp (.bl b) f, fin_shaped f⟩
  | int b => cases h; exact ⟨fin_dp (.int b) f, fin_shaped f⟩
  | str b => cases h; exact ⟨fin_dp (.str b) f, fin_shaped f⟩
theorem eqT_eqv {a b : D} (fa : finT a = true) (fb : finT b = true) : PyData.eqv (pd a) (pd b) = eqT a b := by
  cases a with
  | fz l =>
    cases b with
    | fz m =>
      simp only [pd, PyData.eqv, eqT]
      exact eqFs_eqv fa fb
    | ref n => simp [finT, fin] at fb
    | _ => simp [pd, PyData.eqv, eqT]
  | ref n => simp [finT, fin] at fa
  | _ =>
    cases b with
    | fz m => simp [pd, PyData.eqv, eqT]
    | ref n => simp [finT, fin] at fb
    | _ => exact eqF_eqv (n := 12) fa fb
theorem eqW_data (rs : RepS K S H) {a b : D} {x y : V} {Kb : Bool → Prop} (ra : RV K H a x) (rb : RV K H b y) (h : eqW S a b Kb) :
    ∃ d e, Dp K H x d ∧ Dp K H y e ∧ SeqAt.shaped d = true ∧ SeqAt.shaped e = true ∧ Kb (PyData.eqv d e) := by
  obtain ⟨d, e, hd, he, f, k⟩ := h
  rw [Bool.and_eq_true] at f
  obtain ⟨a1, a2⟩ := flat_dp rs ra hd f.1
  obtain ⟨b1, b2⟩ := flat_dp rs rb he f.2
  exact ⟨pd d, pd e, a1, b1, a2, b2, by rw [eqT_eqv f.1 f.2]; exact k⟩

/-- dicts -/
theorem eqF_kd (a b : Key) : eqF 12 (kd a) (kd b) = decide (a = b) := by
  cases a with
  | inl i =>
    cases b with
    | inl j =>
      simp only [kd, eqF]
      rw [Bool.eq_iff_iff]
      simp
    | inr s => simp [kd, eqF]
  | inr i =>
    cases b with
    | inl j => simp [kd, eqF]
    | inr s => simp [kd, eqF]
theorem getk_cons (a : D × D) (l : List (D × D)) (k : D) : getk (a :: l) k = if eqF 12 a.1 k = true then some a.2 else getk l k := by
  unfold getk
  rw [List.find?_cons]
  cases eqF 12 a.1 k <;> simp
theorem rks_has {l : List (D × D)} {kv : List (Key × V)} (r : RKs K H l kv) (k : Key) :
    (getk l (kd k) = none ∧ valV kv k = none) ∨ ∃ y v, getk l (kd k) = some y ∧ valV kv k = some v ∧ RV K H y v := by
  induction r with
  | nil => exact .inl ⟨rfl, rfl⟩
  | @cons k' d v l kv r _ ih =>
    rw [getk_cons, eqF_kd]
    by_cases e : k' = k
    · subst e
      exact .inr ⟨d, v, by simp, valV_pos rfl, r⟩
    · rw [valV_neg e, decide_eq_false e]
      exact ih
theorem hask_getk (l : List (D × D)) (k : D) : hask l k = (getk l k).isSome := by
  unfold hask
  induction l with
  | nil => rfl
  | cons p l ih =>
    rw [List.any_cons, getk_cons, ih]
    cases h : eqF 12 p.1 k <;> simp
theorem key_of_d {d : D} {x : V} (r : RV K H d x) (h : isKey d = true) : ∃ k : Key, d = kd k ∧ x = kV k := by
  cases r with
  | int i => exact ⟨.inl i, rfl, rfl⟩
  | str i => exact ⟨.inr i, rfl, rfl⟩
  | _ => simp [isKey] at h
theorem dic_get (rs : RepS K S H) {n : Nat} {l : List (D × D)} {d : D} {x : V} (hS : S n = some (.dic l)) (r : RV K H d x) (h : isKey d = true) :
    (getk l d = none ∧ DGet H n x none) ∨ ∃ y v, getk l d = some y ∧ DGet H n x (some v) ∧ RV K H y v := by
  obtain ⟨kv, e, rk⟩ := rs n _ hS
  obtain ⟨k, rfl, rfl⟩ := key_of_d r h
  have g := DGet.k (k := k) e
  rcases rks_has rk k with ⟨a, b⟩ | ⟨y, v, a, b, c⟩
  · rw [b] at g; exact .inl ⟨a, g⟩
  · rw [b] at g; exact .inr ⟨y, v, a, g, c⟩
theorem rks_any {l : List (D × D)} {kv : List (Key × V)} (r : RKs K H l kv) (k : Key) : hask l (kd k) = kv.any fun p => decide (p.1 = k) := by
  unfold hask
  induction r with
  | nil => rfl
  | cons k' _ _ ih => rw [List.any_cons, List.any_cons, ih, eqF_kd]
theorem rks_map {l : List (D × D)} {kv : List (Key × V)} (r : RKs K H l kv) (k : Key) {y : D} {v : V} (ry : RV K H y v) :
    RKs K H (l.map fun p => if eqF 12 p.1 (kd k) = true then (p.1, y) else p) (kv.map fun p => if p.1 = k then (p.1, v) else p) := by
  induction r with
  | nil => exact .nil
  | @cons k' d' v' l kv r _ ih =>
    rw [List.map_cons, List.map_cons, eqF_kd]
    by_cases e : k' = k
    · simp only [e, decide_true, if_true]
      exact .cons k ry ih
    · simp only [e, decide_false, if_false, Bool.false_eq_true]
      exact .cons k' r ih
theorem rks_snoc {l : List (D × D)} {kv : List (Key × V)} (r : RKs K H l kv) (k : Key) {y : D} {v : V} (ry : RV K H y v) : RKs K H (l ++ [(kd k, y)]) (kv ++ [(k, v)]) := by
  induction r with
  | nil => exact .cons k ry .nil
  | cons k' r _ ih => exact .cons k' r ih
theorem rks_put {l : List (D × D)} {kv : List (Key × V)} (r : RKs K H l kv) (k : Key) {y : D} {v : V} (ry : RV K H y v) : RKs K H (putk l (kd k) y) (putK kv k v) := by
  unfold putk putK
  rw [rks_any r k]
  cases kv.any fun p => decide (p.1 = k) with
  | true => exact rks_map r k ry
  | false => exact rks_snoc r k ry
theorem rks_keys {l : List (D × D)} {kv : List (Key × V)} (r : RKs K H l kv) : RVs K H (l.map (·.1)) (kv.map fun p => kV p.1) := by
  induction r with
  | nil => exact .nil
  | cons k r _ ih =>
    refine .cons ?_ ih
    cases k with
    | inl i => exact .int i
    | inr i => exact .str i
end
section
variable {X : Cx}
theorem any_eqvL {a : D} {l : List D} (fa : fin 12 a = true) (f : l.all (fin 12) = true) : (pds l).any (fun e => PyData.eqv e (pd a)) = l.any fun y => eqF 12 y a := by
  induction l with
  | nil => simp [pds]
  | cons d l ih =>
    rw [pds, List.any_cons, List.any_cons, eqF_eqv (fin_cons f).1 fa, ih (fin_cons f).2]
end
end Ev
set_option Elab.async false
set_option linter.all false
set_option maxRecDepth 100000
set_option maxHeartbeats 1000000
/-! EvB5: comparisons, items, slices, calls of built-ins, as rules. -/
namespace Ev
open PySem PySem.Spec PyProof.Rows L2
section
variable {X : Cx}
theorem lexI_eq : ∀ l m : List Int, lexI l m = HT.lexLt l m
  | [], [] => rfl
  | [], _ :: _ => rfl
  | _ :: _, [] => rfl
  | x :: r, y :: t => by
    rw [HT.lexLt_cons, lexI, lexI_eq r t]
theorem op_cmp (hu : X.A.units + 66 < cLine) (op : Cop) : OpR X (compareOp (copOf op)) (rCmp X.K op) := by
  intro pins s σ H x y v u Q I rx ry ⟨a, b, S, Kb, ra, rb, rs, h, aft⟩
  cases op with
  | eq =>
    obtain ⟨d, e, hd, he, sd, se, k⟩ := eqW_data rs ra rb h
    exact op_eqD (by omega) pins s σ H x y v u Q I rx ry ⟨d, e, hd, he, sd, se, aft _ k⟩
  | ne =>
    obtain ⟨d, e, hd, he, sd, se, k⟩ := eqW_data (Kb := fun c => Kb (!c)) rs ra rb h
    exact op_neD (by omega) pins s σ H x y v u Q I rx ry ⟨d, e, hd, he, sd, se, aft _ k⟩
  | is =>
    obtain ⟨hb, k⟩ := h
    subst hb
    cases rb
    refine op_isN pins s σ H x _ v u Q I rx ry ⟨rfl, ?_⟩
    cases ra <;> exact aft _ k
  | isnot =>
    obtain ⟨hb, k⟩ := h
    subst hb
    cases rb
    refine op_notN pins s σ H x _ v u Q I rx ry ⟨rfl, ?_⟩
    cases ra <;> exact aft _ k
  | lt =>
    cases ra with
    | int i =>
      cases rb with
      | int j => exact op_lt pins s σ H _ _ v u Q I rx ry ⟨i, j, rfl, rfl, aft _ h⟩
      | _ => exact h.elim
    | @tup l p xs hp rl =>
      cases rb with
      | @tup m q ys hq rm =>
        obtain ⟨ns, e1, ms, e2, k⟩ := h
        have z1 := rl.ints e1
        have z2 := rm.ints e2
        subst z1
        subst z2
        refine op_ltT (by omega) pins s σ H _ _ v u Q I rx ry ⟨p, q, ns, ms, rfl, rfl, hp, hq, ?_⟩
        rw [← lexI_eq]
        exact aft _ k
      | _ => exact h.elim
    | _ => cases rb <;> exact h.elim
  | le =>
    cases ra with
    | int i =>
      cases rb with
      | int j => exact op_le pins s σ H _ _ v u Q I rx ry ⟨i, j, rfl, rfl, aft _ h⟩
      | _ => exact h.elim
    | _ => cases rb <;> exact h.elim
  | gt =>
    cases ra with
    | int i =>
      cases rb with
      | int j => exact op_gt pins s σ H _ _ v u Q I rx ry ⟨i, j, rfl, rfl, aft _ h⟩
      | _ => exact h.elim
    | _ => cases rb <;> exact h.elim
  | ge =>
    cases ra with
    | int i =>
      cases rb with
      | int j => exact op_ge pins s σ H _ _ v u Q I rx ry ⟨i, j, rfl, rfl, aft _ h⟩
      | _ => exact h.elim
    | _ => cases rb <;> exact h.elim
  | inn =>
    cases rb with
    | @tup m q ys hq rm =>
      obtain ⟨f, k⟩ := h
      rw [Bool.and_eq_true] at f
      obtain ⟨as, r1⟩ := Dp.reads I (pd a) x v (fin_dp ra f.1) rx
      obtain ⟨bs, r2⟩ := Dp.reads I (.tuple (pds m)) (.ref q) u (.tup hq (fin_dps rm f.2)) ry
      have hl := fin_lay f.1
      have hl2 := fin_lays f.2
      refine SeqAt.in_tuple_reads r2 r1 hl2.1 hl.1 (by omega) ⟨.bl _, H, I, rfl, ?_⟩
      rw [any_eqvL f.1 f.2]
      exact aft _ k
    | ref n =>
      have h' : (match S n with
        | some (.lst l) => (fin 12 a && l.all (fin 12)) = true ∧ Kb (l.any fun y => eqF 12 y a)
        | some (.dic kv) => isKey a = true ∧ Kb (hask kv a)
        | _ => False) := h
      cases e : S n with
      | none => rw [e] at h'; exact h'.elim
      | some o =>
        rw [e] at h'
        cases o with
        | lst m =>
          obtain ⟨f, k⟩ := h'
          rw [Bool.and_eq_true] at f
          obtain ⟨ys, hq, rm⟩ := lst_of rs e
          refine op_inD (by omega) pins s σ H x _ v u Q I rx ry ⟨pd a, pds m, fin_dp ra f.1, .lst (.of hq) (fin_dps rm f.2), fin_shaped f.1, fin_shapedL f.2, ?_⟩
          rw [any_eqvL f.1 f.2]
          exact aft _ k
        | dic kv =>
          obtain ⟨f, k⟩ := h'
          cases ry
          rw [hask_getk] at k
          rcases dic_get rs e ra f with ⟨g1, g⟩ | ⟨y, w, g1, g, _⟩
          · rw [g1] at k
            exact d_in (by omega) I g rx fun s' I' => ⟨.bl false, H, I', rfl, aft _ k⟩
          · rw [g1] at k
            exact d_in (by omega) I g rx fun s' I' => ⟨.bl true, H, I', rfl, aft _ k⟩
        | ins c f => exact h'.elim
    | _ => exact h.elim
  | notin =>
    cases rb with
    | @tup m q ys hq rm =>
      obtain ⟨f, k⟩ := h
      rw [Bool.and_eq_true] at f
      obtain ⟨as, r1⟩ := Dp.reads I (pd a) x v (fin_dp ra f.1) rx
      obtain ⟨bs, r2⟩ := Dp.reads I (.tuple (pds m)) (.ref q) u (.tup hq (fin_dps rm f.2)) ry
      have hl := fin_lay f.1
      have hl2 := fin_lays f.2
      refine SeqAt.notIn_tuple_reads r2 r1 hl2.1 hl.1 (by omega) ⟨.bl _, H, I, rfl, ?_⟩
      rw [any_eqvL f.1 f.2]
      exact aft _ k
    | ref n =>
      have h' : (match S n with
        | some (.lst l) => (fin 12 a && l.all (fin 12)) = true ∧ Kb (!l.any fun y => eqF 12 y a)
        | some (.dic kv) => isKey a = true ∧ Kb (!hask kv a)
        | _ => False) := h
      cases e : S n with
      | none => rw [e] at h'; exact h'.elim
      | some o =>
        rw [e] at h'
        cases o with
        | lst m =>
          obtain ⟨f, k⟩ := h'
          rw [Bool.and_eq_true] at f
          obtain ⟨ys, hq, rm⟩ := lst_of rs e
          refine op_notInD (by omega) pins s σ H x _ v u Q I rx ry ⟨pd a, pds m, fin_dp ra f.1, .lst (.of hq) (fin_dps rm f.2), fin_shaped f.1, fin_shapedL f.2, ?_⟩
          rw [any_eqvL f.1 f.2]
          exact aft _ k
        | dic kv =>
          obtain ⟨f, k⟩ := h'
          cases ry
          rw [hask_getk] at k
          rcases dic_get rs e ra f with ⟨g1, g⟩ | ⟨y, w, g1, g, _⟩
          · rw [g1] at k
            exact d_notIn (by omega) I g rx fun s' I' => ⟨.bl true, H, I', rfl, aft _ k⟩
          · rw [g1] at k
            exact d_notIn (by omega) I g rx fun s' I' => ⟨.bl false, H, I', rfl, aft _ k⟩
        | ins c f => exact h'.elim
    | _ => exact h.elim
end
end Ev
set_option Elab.async false
set_option linter.all false
set_option maxRecDepth 100000
set_option maxHeartbeats 1000000
/-! EvB6: items, slices, isinstance, built-ins and methods. -/
namespace Ev
open PySem PySem.Spec PyProof.Rows L2
/-- one look at a sum of cases over the store -/
theorem sto_cases {S : Sto} {n : Nat} : S n = none ∨ (∃ l, S n = some (.lst l)) ∨ (∃ l, S n = some (.dic l)) ∨ ∃ c f, S n = some (.ins c f) := by
  cases h : S n with
  | none => exact .inl rfl
  | some o =>
    cases o with
    | lst l => exact .inr (.inl ⟨l, rfl⟩)
    | dic l => exact .inr (.inr (.inl ⟨l, rfl⟩))
    | ins c f => exact .inr (.inr (.inr ⟨c, f, rfl⟩))
def rIdx (K : PySem.W.Frag) : R2 := fun x y H Q => ∃ a b S Kd, RV K H a x ∧ RV K H b y ∧ RepS K S H ∧ idxW a b S Kd ∧ ∀ d v, Kd d → RV K H d v → Q v H
section
variable {X : Cx}
theorem ix_any (hu : X.A.units + 66 < cLine) : IxR X (rIdx X.K) := by
  intro value slice pins s σ H x y v u Q I rx ry ⟨a, b, S, Kd, ra, rb, rs, h, aft⟩ hs
  cases ra with
  | @tup l p xs hp rl =>
    cases rb with
    | int k =>
      obtain ⟨d, e, kk⟩ := h
      obtain ⟨w, e2, r⟩ := rl.nth e
      exact ix_tup value slice pins s σ H _ _ v u Q I rx ry ⟨p, xs, k, w, rfl, rfl, hp, e2, aft d w kk r⟩ hs
    | _ => exact h.elim
  | ref n =>
    rcases sto_cases (S := S) (n := n) with e | ⟨l, e⟩ | ⟨l, e⟩ | ⟨c, f, e⟩
    · cases b <;> (simp only [idxW, e] at h)
    · cases rb with
      | int k =>
        simp only [idxW, e] at h
        obtain ⟨d, e2, kk⟩ := h
        obtain ⟨xs, hx, rl⟩ := lst_of rs e
        obtain ⟨w, e3, r⟩ := rl.nth e2
        exact ix_list value slice pins s σ H _ _ v u Q I rx ry ⟨n, xs, k, w, rfl, rfl, .of hx, e3, aft d w kk r⟩ hs
      | _ => simp only [idxW, e] at h
    · have h' : isKey b = true ∧ ofO (getk l b) Kd := by
        cases b <;> (simp only [idxW, e] at h; exact h)
      obtain ⟨hk, d, e2, kk⟩ := h'
      rcases dic_get rs e rb hk with ⟨g1, g⟩ | ⟨y', w, g1, g, r⟩
      · rw [g1] at e2; cases e2
      · rw [g1] at e2
        cases e2
        cases rx
        exact tail_any (dict_typeIs I g) PySem.F.slot_dict_getitem.lookup (d_getItem (by omega) I g ry fun w' s' I' r' => ⟨w, H, I', r', aft _ w kk r⟩) hs
    · cases b <;> (simp only [idxW, e] at h)
  | _ => cases rb <;> exact h.elim
theorem get_any (hu : X.A.units + 66 < cLine) : PGet X (rIdx X.K) := by
  intro pins s σ H x y v u Q I rx ry ⟨a, b, S, Kd, ra, rb, rs, h, aft⟩
  cases ra with
  | @tup l p xs hp rl =>
    cases rb with
    | int k =>
      obtain ⟨d, e, kk⟩ := h
      obtain ⟨w, e2, r⟩ := rl.nth e
      obtain ⟨j, h1, h2, h3, h4, h5⟩ := atI_get e2
      cases rx
      obtain ⟨t, rfl⟩ := ry
      obtain ⟨its, r2, pl, hz⟩ := I.tuple hp
      obtain ⟨w', ew, rw'⟩ := r2.get h2
      have hl := r2.length
      have hn := line63
      exact getItem_tuple (j := j) pl (by omega) (by omega) (by rw [List.size_toArray, ← hl]; exact h1) (by simpa using ew) ⟨w, H, I, rw', aft d w kk r⟩
    | _ => exact h.elim
  | ref n =>
    rcases sto_cases (S := S) (n := n) with e | ⟨l, e⟩ | ⟨l, e⟩ | ⟨c, f, e⟩
    · cases b <;> (simp only [idxW, e] at h)
    · cases rb with
      | int k =>
        simp only [idxW, e] at h
        obtain ⟨d, e2, kk⟩ := h
        obtain ⟨xs, hx, rl⟩ := lst_of rs e
        obtain ⟨w, e3, r⟩ := rl.nth e2
        obtain ⟨j, h1, h2, h3, h4, h5⟩ := atI_get e3
        cases rx
        obtain ⟨t, rfl⟩ := ry
        obtain ⟨its, r2, pl, hz⟩ := I.list (SqL.of hx)
        obtain ⟨w', ew, rw'⟩ := r2.get h2
        have hl := r2.length
        have hn := line63
        have fin : EP X pins σ Q w' s := ⟨w, H, I, rw', aft d w kk r⟩
        by_cases h0 : 0 ≤ k
        · have hj : k.toNat = j := by
            rw [seqIndex_of h0 h5] at h1
            exact Option.some.inj h1
          exact wpAny_getItem_list pl.isList h0 (by omega) (by rw [hj]; simpa using ew) fin
        · have hj : (k + (its.toArray.size : Int)).toNat = j := by
            rw [seqIndex_neg (by omega) h4] at h1
            rw [List.size_toArray, ← hl]
            exact Option.some.inj h1
          exact wpAny_getItem_list_neg pl.isList (by omega) (by rw [List.size_toArray] <;> omega) (by omega) (by rw [hj]; simpa using ew) fin
      | _ => simp only [idxW, e] at h
    · have h' : isKey b = true ∧ ofO (getk l b) Kd := by
        cases b <;> (simp only [idxW, e] at h; exact h)
      obtain ⟨hk, d, e2, kk⟩ := h'
      rcases dic_get rs e rb hk with ⟨g1, g⟩ | ⟨y', w, g1, g, r⟩
      · rw [g1] at e2; cases e2
      · rw [g1] at e2
        cases e2
        cases rx
        exact d_getItem (by omega) I g ry fun w' s' I' r' => ⟨w, H, I', r', aft _ w kk r⟩
    · cases b <;> (simp only [idxW, e] at h)
  | _ => cases rb <;> exact h.elim

/-! ### stores -/
def rSub (K : PySem.W.Frag) : TSet := fun o i v H Q => ∃ a b d S Ks, RV K H a o ∧ RV K H b i ∧ RV K H d v ∧ RepS K S H ∧ subW a b d S Ks ∧ ∀ S' H', Ks S' → Ext S H S' H' → RepS K S' H' → Q H'
theorem set_any (hu : X.A.units + 66 < cLine) : PSet X (rSub X.K) := by
  intro pins s σ H o i v ov iv u Q I ro ri rv ⟨a, b, d, S, Ks, ra, rb, rd, rs, h, aft⟩
  cases ra with
  | ref n =>
    rcases sto_cases (S := S) (n := n) with e | ⟨l, e⟩ | ⟨l, e⟩ | ⟨c, f, e⟩
    · cases b <;> (simp only [subW, e] at h)
    · cases rb with
      | int k =>
        simp only [subW, e] at h
        obtain ⟨j, e2, kk⟩ := h
        obtain ⟨xs, hx, rl⟩ := lst_of rs e
        have st : Stay H (L2.upd H n (.lst (xs.set j v))) := stay_old hx trivial
        refine set_list pins s σ H _ _ v ov iv u Q I ro ri rv ⟨n, xs, k, j, rfl, rfl, hx, by rw [← ixn_eq, ← rl.len]; exact e2, ?_⟩
        exact aft _ _ kk (Ext.wrote e hx) (rs.wrote e hx trivial ⟨_, upd_same, (rl.set rd j).mono st⟩)
      | _ => simp only [subW, e] at h
    · have h' : isKey b = true ∧ l.length < line ∧ Ks (put S n (.dic (putk l b d))) := by
        cases b <;> (simp only [subW, e] at h; exact h)
      obtain ⟨hk, hz, kk⟩ := h'
      obtain ⟨kv, e2, rk⟩ := rs n _ e
      obtain ⟨k, rfl, rfl⟩ := key_of_d rb hk
      have st : Stay H (L2.upd H n (.dK (putK kv k v))) := stay_old e2 trivial
      refine set_dict (by omega) pins s σ H _ _ v ov iv u Q I ro ri rv ⟨n, _, rfl, DPut.k e2 (by rw [← line_eq, ← rks_len rk]; exact hz), ?_⟩
      exact aft _ _ kk (Ext.wrote e e2) (rs.wrote e e2 trivial ⟨_, upd_same, (rks_put rk k rd).mono st⟩)
    · cases b <;> (simp only [subW, e] at h)
  | _ => cases rb <;> exact h.elim

/-! ### slices -/
def rSlc (K : PySem.W.Frag) : V → Option Int → Option Int → Hp → VK → Prop := fun x lo hi H Q => ∃ a S Kk, RV K H a x ∧ RepS K S H ∧ slcW a lo hi S Kk ∧ Aft K S H Kk Q
theorem slc_any : SlR X (rSlc X.K) := by
  intro pins s σ H x v vl vu lo hi sl Q I rx hs pl pu ⟨a, S, Kk, ra, rs, h, aft⟩
  cases ra with
  | @tup l p xs hp rl =>
    refine sl_tupA pins s σ H _ v vl vu lo hi sl Q I rx hs pl pu ⟨p, xs, rfl, hp, fun hw => ?_, fun _ q hq => aft.tup rs h (rl.cut lo hi) hq⟩
    refine aft.self rs h (.tup hp ?_)
    have e := rl.cut lo hi
    have z : cutV xs lo hi = xs := by
      unfold cutV
      rw [hw.1, hw.2]
      simp
    rw [z] at e
    exact e
  | ref n =>
    rcases sto_cases (S := S) (n := n) with e | ⟨l, e⟩ | ⟨l, e⟩ | ⟨c, f, e⟩
    · simp only [slcW, e] at h
    · simp only [slcW, e] at h
      obtain ⟨xs, hx, rl⟩ := lst_of rs e
      exact sl_list pins s σ H _ v vl vu lo hi sl Q I rx hs pl pu ⟨n, xs, rfl, .of hx, fun p hp => aft.lst rs h (rl.cut lo hi) hp⟩
    · simp only [slcW, e] at h
    · simp only [slcW, e] at h
  | _ => exact h.elim
end
end Ev
set_option Elab.async false
set_option linter.all false
set_option maxRecDepth 100000
set_option maxHeartbeats 1000000
/-! EvB7: isinstance, built-ins and methods. -/
namespace Ev
open PySem PySem.Spec PyProof.Rows L2
open PySem.AutoSeq1 (wpAny_loadPart')

def tyOf : Ty → String
  | .int => "int" | .bool => "bool" | .str => "str" | .tuple => "tuple" | .list => "list" | .dict => "dict"
theorem kit_all (a : String) (ha : a ∈ ["NoneType", "bool", "int", "str", "tuple", "list", "dict"]) (t : Ty) :
    kitB a (tyOf t) = some (decide (a = tyOf t) || (decide (a = "bool") && decide (t = .int))) := by
  simp only [List.mem_cons, List.not_mem_nil, or_false] at ha
  rcases ha with rfl | rfl | rfl | rfl | rfl | rfl | rfl <;> cases t <;> decide +kernel
section
variable {X : Cx}
def rIsi1 (K : PySem.W.Frag) (t : Ty) : List V → Hp → VK → Prop := fun xs H Q => ∃ x a S Kb, xs = [x, .ty (tyOf t)] ∧ RV K H a x ∧ RepS K S H ∧ isiD S a t Kb ∧ ∀ c, Kb c → Q (.bl c) H
theorem call_isi1 (t : Ty) : CallR X (.builtin "isinstance") (rIsi1 X.K t) := by
  intro pins s σ H xs us Q I r ⟨x, a, S, Kb, ex, ra, rs, h, aft⟩
  subst ex
  have go : ∀ {nm : String} {b : Bool}, TyX X.K H x (.type nm) → kitB nm (tyOf t) = some b → Kb b → wpAny (model X.prog X.w) X.A (call (.builtin "isinstance") us) (EP X pins σ Q) X.xe s :=
    fun {nm b} ty k kb => call_isi pins s σ H _ us Q I r ⟨x, _, _, _, b, rfl, .ty (tyOf t), ty, kit_ty k, aft b kb⟩
  cases ra with
  | non =>
    refine go (nm := "NoneType") (.base .non) ?_ (show Kb false from h)
    rw [kit_all _ (by simp)]
    cases t <;> decide +kernel
  | bl b =>
    refine go (nm := "bool") (.base (.bl b)) ?_ h
    rw [kit_all _ (by simp)]
    cases t <;> decide +kernel
  | int i =>
    refine go (nm := "int") (.base (.int i)) ?_ h
    rw [kit_all _ (by simp)]
    cases t <;> decide +kernel
  | str i =>
    refine go (nm := "str") (.base (.str i)) ?_ h
    rw [kit_all _ (by simp)]
    cases t <;> decide +kernel
  | @tup l p ys hp rl =>
    have ty : TyX X.K H (.ref p) (.type "tuple") := by
      rcases hp with (hp | ⟨o, hp⟩) | ⟨o, its, n, hk, hc, _⟩
      · exact .base (.tup hp)
      · exact .fTuple hp
      · exact .kTuple hk hc
    refine go ty ?_ h
    rw [kit_all _ (by simp)]
    cases t <;> decide +kernel
  | fz _ _ => exact h.elim
  | ref n =>
    rcases sto_cases (S := S) (n := n) with e | ⟨l, e⟩ | ⟨l, e⟩ | ⟨c, f, e⟩
    · simp only [isiD, e] at h
    · simp only [isiD, e] at h
      obtain ⟨ys, hx, rl⟩ := lst_of rs e
      refine go (nm := "list") (.base (.lst hx)) ?_ h
      rw [kit_all _ (by simp)]
      cases t <;> decide +kernel
    · simp only [isiD, e] at h
      obtain ⟨kv, hx, rl⟩ := rs n _ e
      refine go (nm := "dict") (.base (.dK hx)) ?_ h
      rw [kit_all _ (by simp)]
      cases t <;> decide +kernel
    · simp only [isiD, e] at h

/-! ### built-ins -/
def rBlt (K : PySem.W.Frag) (f : Bf) : List V → Hp → VK → Prop := fun vs H Q => ∃ as S Kk, RVs K H as vs ∧ RepS K S H ∧ bltW f as S Kk ∧ Aft K S H Kk Q
def bfVal : Bf → Value
  | .len => .builtin "len" | .abs => .builtin "abs" | .min2 => .builtin "min" | .max2 => .builtin "max" | .int => .type "int" | .bool => .type "bool" | .list => .type "list" | .tuple => .type "tuple"
  | .sum => .builtin "sum" | .minl => .builtin "min" | .maxl => .builtin "max" | .any => .builtin "any" | .all => .builtin "all" | .sorted => .builtin "sorted" | .str => .type "str"
theorem call_blt (hc : X.calm = true) (f : Bf) : CallR X (bfVal f) (rBlt X.K f) := by
  intro pins s σ H xs us Q I r ⟨as, S, Kk, ra, rs, h, aft⟩
  cases ra with
  | nil => cases f <;> exact h.elim
  | @cons a as x xs r1 r2 =>
    cases r2 with
    | @cons b as y xs r3 r4 =>
      cases r4 with
      | cons _ _ =>
        cases f <;> first
          | exact h.elim
          | (cases a <;> first
            | exact h.elim
            | (cases b <;> exact h.elim))
      | nil =>
        cases f with
        | min2 =>
          cases r1 with
          | int i =>
            cases r3 with
            | int j => exact call_min2 hc pins s σ H _ us Q I r ⟨i, j, rfl, aft.self rs h (.int _)⟩
            | _ => exact h.elim
          | _ => exact h.elim
        | max2 =>
          cases r1 with
          | int i =>
            cases r3 with
            | int j => exact call_max2 hc pins s σ H _ us Q I r ⟨i, j, rfl, aft.self rs h (.int _)⟩
            | _ => exact h.elim
          | _ => exact h.elim
        | _ => cases a <;> exact h.elim
    | nil =>
      cases f with
      | len =>
        cases r1 with
        | str z => exact call_len pins s σ H _ us Q I r ⟨_, _, rfl, ⟨by rw [← line_eq]; exact h.1, rfl⟩, aft.self rs h.2 (.int _)⟩
        | @tup l p ys hp rl => exact call_len pins s σ H _ us Q I r ⟨_, ys.length, rfl, .inr ⟨ys, hp, rfl⟩, by rw [← rl.len]; exact aft.self rs h (.int _)⟩
        | ref n =>
          rcases sto_cases (S := S) (n := n) with e | ⟨l, e⟩ | ⟨l, e⟩ | ⟨c, f, e⟩
          · simp only [bltW, e] at h
          · simp only [bltW, e] at h
            obtain ⟨ys, hx, rl⟩ := lst_of rs e
            exact call_len pins s σ H _ us Q I r ⟨_, ys.length, rfl, .inl ⟨ys, .of hx, rfl⟩, by rw [← rl.len]; exact aft.self rs h (.int _)⟩
          · simp only [bltW, e] at h
            obtain ⟨kv, hx, rl⟩ := rs n _ e
            exact call_lenD pins s σ H _ us Q I r ⟨_, kv, rfl, hx, by rw [← rks_len rl]; exact aft.self rs h (.int _)⟩
          · simp only [bltW, e] at h
        | _ => exact h.elim
      | abs =>
        cases r1 with
        | int i => exact call_abs pins s σ H _ us Q I r ⟨i, rfl, aft.self rs h (.int _)⟩
        | _ => exact h.elim
      | int =>
        cases r1 with
        | int i => exact call_int1 pins s σ H _ us Q I r (.inl ⟨i, rfl, aft.self rs h (.int _)⟩)
        | bl b => exact call_int1 pins s σ H _ us Q I r (.inr ⟨b, rfl, aft.self rs h (.int _)⟩)
        | _ => exact h.elim
      | bool =>
        cases r1 with
        | int i => exact call_bool1 pins s σ H _ us Q I r (.inl ⟨i, rfl, aft.self rs h (.bl _)⟩)
        | bl b => exact call_bool1 pins s σ H _ us Q I r (.inr ⟨b, rfl, aft.self rs h (.bl _)⟩)
        | _ => exact h.elim
      | str =>
        cases r1 with
        | int i => exact call_str_int pins s σ H _ us Q I r ⟨i, rfl, h.1, aft.self rs h.2 (.str _)⟩
        | _ => exact h.elim
      | list =>
        cases r1 with
        | @tup l p ys hp rl => exact call_list_of pins s σ H _ us Q I r ⟨p, ys, rfl, .inr hp, fun q hq => aft.lst rs h rl hq⟩
        | ref n =>
          rcases sto_cases (S := S) (n := n) with e | ⟨l, e⟩ | ⟨l, e⟩ | ⟨c, f, e⟩
          · simp only [bltW, e] at h
          · simp only [bltW, e] at h
            obtain ⟨ys, hx, rl⟩ := lst_of rs e
            exact call_list_of pins s σ H _ us Q I r ⟨n, ys, rfl, .inl (.of hx), fun q hq => aft.lst rs h rl hq⟩
          · simp only [bltW, e] at h
            obtain ⟨kv, hx, rl⟩ := rs n _ e
            exact call_listD hc pins s σ H _ us Q I r ⟨n, kv, rfl, .inl hx, fun q hq => aft.lst rs h (rks_keys rl) hq⟩
          · simp only [bltW, e] at h
        | _ => exact h.elim
      | tuple =>
        cases r1 with
        | @tup l p ys hp rl => exact call_tuple_of pins s σ H _ us Q I r ⟨p, ys, rfl, .inr ⟨hp, aft.self rs h (.tup hp rl)⟩⟩
        | ref n =>
          rcases sto_cases (S := S) (n := n) with e | ⟨l, e⟩ | ⟨l, e⟩ | ⟨c, f, e⟩
          · simp only [bltW, e] at h
          · simp only [bltW, e] at h
            obtain ⟨ys, hx, rl⟩ := lst_of rs e
            exact call_tuple_of pins s σ H _ us Q I r ⟨n, ys, rfl, .inl ⟨.of hx, fun q hq => aft.tup rs h rl hq⟩⟩
          · simp only [bltW, e] at h
          · simp only [bltW, e] at h
        | _ => exact h.elim
      | sum =>
        cases r1 with
        | ref n =>
          rcases sto_cases (S := S) (n := n) with e | ⟨l, e⟩ | ⟨l, e⟩ | ⟨c, f, e⟩
          · simp only [bltW, e] at h
          · simp only [bltW, e] at h
            obtain ⟨z, e2, k⟩ := h
            obtain ⟨ys, hx, rl⟩ := lst_of rs e
            have ez := rl.ints e2
            subst ez
            exact cr_sum hc pins s σ H _ us Q I r ⟨n, z, rfl, .of hx, aft.self rs k (.int _)⟩
          · simp only [bltW, e] at h
          · simp only [bltW, e] at h
        | _ => exact h.elim
      | maxl =>
        cases r1 with
        | ref n =>
          rcases sto_cases (S := S) (n := n) with e | ⟨l, e⟩ | ⟨l, e⟩ | ⟨c, f, e⟩
          · simp only [bltW, e] at h
          · simp only [bltW, e] at h
            obtain ⟨z, e2, ne, k⟩ := h
            obtain ⟨ys, hx, rl⟩ := lst_of rs e
            have ez := rl.ints e2
            subst ez
            exact cr_max hc pins s σ H _ us Q I r ⟨n, z, rfl, .of hx, List.length_pos_iff.mpr ne, fun m h1 h2 => aft.self rs (k m h1 h2) (.int _)⟩
          · simp only [bltW, e] at h
          · simp only [bltW, e] at h
        | _ => exact h.elim
      | minl =>
        cases r1 with
        | ref n =>
          rcases sto_cases (S := S) (n := n) with e | ⟨l, e⟩ | ⟨l, e⟩ | ⟨c, f, e⟩
          · simp only [bltW, e] at h
          · simp only [bltW, e] at h
            obtain ⟨z, e2, ne, k⟩ := h
            obtain ⟨ys, hx, rl⟩ := lst_of rs e
            have ez := rl.ints e2
            subst ez
            exact cr_min hc pins s σ H _ us Q I r ⟨n, z, rfl, .of hx, List.length_pos_iff.mpr ne, fun m h1 h2 => aft.self rs (k m h1 h2) (.int _)⟩
          · simp only [bltW, e] at h
          · simp only [bltW, e] at h
        | _ => exact h.elim
      | any =>
        cases r1 with
        | ref n =>
          rcases sto_cases (S := S) (n := n) with e | ⟨l, e⟩ | ⟨l, e⟩ | ⟨c, f, e⟩
          · simp only [bltW, e] at h
          · simp only [bltW, e] at h
            obtain ⟨z, e2, k⟩ := h
            obtain ⟨ys, hx, rl⟩ := lst_of rs e
            have ez := rl.bls e2
            subst ez
            exact cr_any hc pins s σ H _ us Q I r ⟨n, z, rfl, .of hx, aft.self rs k (.bl _)⟩
          · simp only [bltW, e] at h
          · simp only [bltW, e] at h
        | _ => exact h.elim
      | all =>
        cases r1 with
        | ref n =>
          rcases sto_cases (S := S) (n := n) with e | ⟨l, e⟩ | ⟨l, e⟩ | ⟨c, f, e⟩
          · simp only [bltW, e] at h
          · simp only [bltW, e] at h
            obtain ⟨z, e2, k⟩ := h
            obtain ⟨ys, hx, rl⟩ := lst_of rs e
            have ez := rl.bls e2
            subst ez
            exact cr_all hc pins s σ H _ us Q I r ⟨n, z, rfl, .of hx, aft.self rs k (.bl _)⟩
          · simp only [bltW, e] at h
          · simp only [bltW, e] at h
        | _ => exact h.elim
      | sorted =>
        cases r1 with
        | ref n =>
          rcases sto_cases (S := S) (n := n) with e | ⟨l, e⟩ | ⟨l, e⟩ | ⟨c, f, e⟩
          · simp only [bltW, e] at h
          · simp only [bltW, e] at h
            obtain ⟨z, e2, k⟩ := h
            obtain ⟨ys, hx, rl⟩ := lst_of rs e
            have ez := rl.ints e2
            subst ez
            refine cr_sortedI pins s σ H _ us Q I r ⟨n, z, rfl, .of hx, fun z' p h1 h2 hp => aft.lst rs (fun q hq => k z' q h1 h2 hq) ?_ hp⟩
            have rm : ∀ l : List Int, RVs X.K H (l.map D.int) (l.map V.int) := fun l => by
              induction l with
              | nil => exact .nil
              | cons i l ih => exact .cons (.int i) ih
            exact rm z'
          · simp only [bltW, e] at h
          · simp only [bltW, e] at h
        | _ => exact h.elim
      | _ => cases a <;> exact h.elim

/-! ### methods -/
theorem extend_tup (l : Addr) (items : Array Value) (n : Nat) (b : Addr) (items2 : Array Value) (n2 : Nat) (dd : Option Addr) (sl : Array (Option Value))
    (hs0 : ¬(!items.isEmpty && Builtin.List.listTooLong (items.size + items2.size)) = true) (hs1 : items.size ≤ sizeLine) (hs2 : items.size + items2.size ≤ sizeLine + 1) :
    Meets (Builtin.«list.extend» ⟨[.ref l, .ref b], []⟩) (fun _ R s => s.heap.get? l = some { cls := .type "list", dict := none, data := .seq items n, slots := #[] } ∧
      s.heap.get? b = some { cls := .type "tuple", dict := dd, data := .seq items2 n2, slots := sl } ∧ R (.ok (.ret Value.none)) { s with heap := s.heap.update l (Obj.mapSeq fun x => x ++ items2), toks := s.toks }) :=
  .of_wp fun prog w A R s h => by
    obtain ⟨hp, g, d, tk, os⟩ := s
    obtain ⟨hl, hb, h⟩ := h
    have f1 := AutoSeq1.idx_int
    have f2 := AutoSeq1.sub_tuple_tuple
    have f3 := AutoSeq1.sub_list_list
    have f4 := AutoSeq1.sub_tuple_list
    have f5 := AutoSeq1.sub_list_tuple
    have hz' : (items ++ items2).size ≤ sizeLine + 1 := by
      rw [Array.size_append]
      exact hs2
    wp_walk using (wpAny_updateSeq hl rfl (hz := hs1) (_hz' := hz')), wpAny_loadPart' hl, wpAny_loadPart' hb
    exact ⟨_, rfl, h⟩
def rExtT (K : PySem.W.Frag) : V → List V → Hp → VK → Prop := fun x vs H Q => ∃ l b xs zs, x = .ref l ∧ vs = [.ref b] ∧ H l = some (.lst xs) ∧ SqT K H b zs ∧ xs.length + zs.length ≤ sizeLine ∧ Q .non (L2.upd H l (.lst (xs ++ zs)))
theorem mt_extT : MtM X "list.extend" (rExtT X.K) := by
  intro pins s σ H x vs v us Q I rx rv h
  obtain ⟨l, b, xs, zs, rfl, rfl, hH, hB, hz, q⟩ := h
  cases rx
  obtain ⟨u, rfl, ru⟩ := rv.one
  cases ru
  obtain ⟨z, its, n, r, hl, e⟩ := I.lstM hH
  obtain ⟨its2, r2, ⟨⟨cls, dd, data, sl⟩, ho, hc, n2, hd⟩, hz2⟩ := I.tuple hB
  simp only at hc hd
  subst hc hd
  have hl2 := r2.length
  have hsz : its.toArray.size + its2.toArray.size ≤ sizeLine := by rw [List.size_toArray, List.size_toArray]; omega
  have hlong : ¬ (!its.toArray.isEmpty && Builtin.List.listTooLong (its.toArray.size + its2.toArray.size)) = true := by
    rw [notLongL hsz, Bool.and_false]
    exact Bool.false_ne_true
  refine call_meets F.slot_list_extend ⟨_, e, rfl⟩ F.entry_list_extend (F.args_list_extend_2 _ _) (extend_tup l its.toArray n b its2.toArray n2 dd sl hlong (by rw [List.size_toArray]; omega) (by omega)) ⟨e, ho, ?_⟩
  refine ⟨.non, _, I.lset (its' := its ++ its2) hH e (by simp) (r.append r2) ?_, rfl, q⟩
  rw [List.length_append]
  omega
/-- what a method asks: of the object, then of the arguments -/
def rMth (K : PySem.W.Frag) (m : Mt) : V → List V → Hp → VK → Prop := fun x vs H Q => ∃ o as S Kk, RV K H o x ∧ RVs K H as vs ∧ RepS K S H ∧ mthW m o as S Kk ∧ Aft K S H Kk Q
def mtName : Mt → String
  | .append => "append" | .extend => "extend" | .pop0 => "pop" | .pop1 => "pop" | .insert => "insert" | .remove => "remove" | .index => "index" | .count => "count" | .reverse => "reverse" | .get2 => "get" | .bitlen => "bit_length"
end
end Ev
set_option Elab.async false
set_option linter.all false
set_option maxRecDepth 100000
set_option maxHeartbeats 1000000
/-! EvB8: which text a term of the small language stands for; the context. -/
namespace Ev
open PySem PySem.Spec PyProof.Rows L2

/-! ### the match -/
def visB (sc : Scope) (x : Str) : Bool := match sc.names.lookup x with
  | some .local => true
  | some .cell => true
  | some .free => true
  | _ => false
def locB (sc : Scope) (x : Str) : Bool := match sc.names.lookup x with
  | some .local => true
  | some .cell => true
  | _ => false
def gloB (sc : Scope) (x : Str) : Bool := match sc.names.lookup x with
  | some .globalImplicit => true
  | _ => false
def plainN (x : Str) : Bool := !(x == ("__debug__" : Str)) && !(x == ("__classdict__" : Str)) && !(x == ("__name__" : Str))
def bfName : Bf → String
  | .len => "len" | .abs => "abs" | .min2 => "min" | .max2 => "max" | .int => "int" | .bool => "bool" | .list => "list" | .tuple => "tuple"
  | .sum => "sum" | .minl => "min" | .maxl => "max" | .any => "any" | .all => "all" | .sorted => "sorted" | .str => "str"
/-- no call without arguments (super() is one) -/
def noSup : Expr → Bool
  | .Call _ [] _ _ => false
  | _ => true
def ownOf (N : List Str) (vs : List Nat) : List (Str × Nat) := vs.map fun i => (N.getD i Str.empty, i)
def fewB (es : List Expr) : Bool := decide (es.length < 28)
mutual
/-- the slots a target writes -/
def tgV : Tg → List Nat
  | .nm i => [i]
  | .tp ts => tgsV ts
def tgsV : Tgs → List Nat
  | .nil => []
  | .cons t ts => tgV t ++ tgsV ts
end
/-- -1 -/
def isM1 : Expr → Bool
  | .UnaryOp .USub (.Constant (.int v) _ _) _ => decide (v = 1)
  | _ => false
def mokB : Mt → Exs → Bool
  | .append, .nil => true
  | .extend, .nil => true
  | .pop1, .nil => true
  | .get2, .cons _ .nil => true
  | _, _ => false
mutual
def mE (G N : List Str) : Scope → Ex → Expr → Bool
  | sc, .var i, .Name x _ => decide (N[i]? = some x) && (visB sc x && plainN x)
  | _, .non, .Constant .none _ _ => true
  | _, .bl b, .Constant (.bool c) _ _ => b == c
  | _, .int z, .Constant (.int y) _ _ => decide (z = y)
  | _, .str z, .Constant (.str y) _ _ => decide (z = y)
  | sc, .tup es, .Tuple l _ _ => mEs G N sc es l
  | sc, .lst es, .List l _ => mEs G N sc es l
  | _, .dic0, .Dict [] [] _ => true
  | sc, .bin op a b, .BinOp x o y _ => decide (o = bopOf op) && (mE G N sc a x && mE G N sc b y)
  | sc, .neg a, .UnaryOp .USub x _ => mE G N sc a x
  | sc, .inv a, .UnaryOp .Invert x _ => mE G N sc a x
  | sc, .not a, .UnaryOp .Not x _ => mE G N sc a x
  | sc, .cmp op a b, .Compare x [o] [y] _ => decide (o = copOf op) && (mE G N sc a x && mE G N sc b y)
  | sc, .chn o1 o2 a b c, .Compare x [p, q] [y, z] _ => decide (p = copOf o1) && (decide (q = copOf o2) && (mE G N sc a x && (mE G N sc b y && mE G N sc c z)))
  | sc, .and a b, .BoolOp .And [x, y] _ => mE G N sc a x && mE G N sc b y
  | sc, .and a b, .BoolOp .And (x :: y :: z :: r) p => mE G N sc a x && (mE G N sc b (.BoolOp .And (y :: z :: r) p))
  | sc, .or a b, .BoolOp .Or [x, y] _ => mE G N sc a x && mE G N sc b y
  | sc, .or a b, .BoolOp .Or (x :: y :: z :: r) p => mE G N sc a x && (mE G N sc b (.BoolOp .Or (y :: z :: r) p))
  | sc, .ite c a b, .IfExp x y z _ => tstB c && (mE G N sc c x && (mE G N sc a y && mE G N sc b z))
  | sc, .idx a i, .Subscript x y _ => mE G N sc a x && mE G N sc i y
  | sc, .slc a lo hi, .Subscript x (.Slice l h none _) _ => mE G N sc a x && (mO G N sc lo l && mO G N sc hi h)
  | sc, .call f es, .Call (.Name g _) l [] _ => decide (f = g) && (decide (f ∈ G) && (gloB sc g && (plainN g && mEs G N sc es l)))
  | sc, .blt f es, .Call (.Name g _) (x :: l) [] _ => decide (g = Str.ofString (bfName f)) && (gloB sc g && mEs G N sc es (x :: l))
  | sc, .isi a t, .Call (.Name g _) [x, .Name T _] [] _ => decide (g = Str.ofString "isinstance") && (gloB sc g && (decide (T = Str.ofString (tyOf t)) && (gloB sc T && mE G N sc a x)))
  | sc, .mth .bitlen o .nil, .Call (.Attribute x m ap) [] [] p => decide (m = Str.ofString "bit_length") && (noSup x && ((ap.endLine == p.line) && mE G N sc o x))
  | sc, .mth .pop0 o .nil, .Call (.Attribute x m ap) [] [] p => decide (m = Str.ofString "pop") && (noSup x && ((ap.endLine == p.line) && mE G N sc o x))
  | sc, .mth m o (.cons e es), .Call (.Attribute x n ap) (y :: l) [] p => mokB m es && (decide (n = Str.ofString (mtName m)) && (noSup x && ((ap.endLine == p.line) && (fewB l && (mE G N sc o x && (mE G N sc e y && mEs G N sc es l))))))
  | sc, .lc elt tg it c vs, .ListComp x [⟨t, i, cs, 0⟩] s _ => blkC N sc s (ownOf N vs) && (((tgV tg).all fun i => decide (i ∈ vs)) && (mI G N sc it t i && (mT N s tg t && (mC G N (relS s sc) c cs && (mE G N (relS s sc) elt x)))))
  | _, _, _ => false
def mEs (G N : List Str) : Scope → Exs → List Expr → Bool
  | _, .nil, [] => true
  | sc, .cons e es, x :: l => mE G N sc e x && mEs G N sc es l
  | _, _, _ => false
def mO (G N : List Str) : Scope → Oe → Option Expr → Bool
  | _, .no, none => true
  | sc, .yes e, some x => mE G N sc e x
  | _, _, _ => false
def mC (G N : List Str) : Scope → Oe → List Expr → Bool
  | _, .no, [] => true
  | sc, .yes e, [x] => mE G N sc e x && tstB e
  | _, _, _ => false
/-- what may stand as a test -/
def tstB : Ex → Bool
  | .ite _ _ _ => false
  | .and a b => tstB a && tstB b
  | .or a b => tstB a && tstB b
  | .not a => tstB a
  | _ => true
def mI (G N : List Str) : Scope → It → Expr → Expr → Bool
  | sc, .val e, _, x => mE G N sc e x && notSet x
  | sc, .rg1 a, _, .Call (.Name g _) [x] [] _ => decide (g = Str.ofString "range") && (gloB sc g && mE G N sc a x)
  | sc, .rg2 a b, _, .Call (.Name g _) [x, y] [] _ => decide (g = Str.ofString "range") && (gloB sc g && (mE G N sc a x && mE G N sc b y))
  | sc, .enum a, .Tuple _ _ _, .Call (.Name g _) [x] [] _ => decide (g = Str.ofString "enumerate") && (gloB sc g && mE G N sc a x)
  | sc, .zip a b, .Tuple _ _ _, .Call (.Name g _) [x, y] [] _ => decide (g = Str.ofString "zip") && (gloB sc g && (mE G N sc a x && mE G N sc b y))
  | sc, .rgd a b, _, .Call (.Name g _) [x, y, z] [] _ => isM1 z && (decide (g = Str.ofString "range") && (gloB sc g && (mE G N sc a x && mE G N sc b y)))
  | sc, .rev a, _, .Call (.Name g _) [x] [] _ => decide (g = Str.ofString "reversed") && (gloB sc g && mE G N sc a x)
  | _, _, _, _ => false
def notSet : Expr → Bool
  | .Set _ _ _ => false
  | _ => true
def mT (N : List Str) : Scope → Tg → Expr → Bool
  | sr, .nm i, .Name x _ => decide (N[i]? = some x) && locB sr x
  | sr, .tp ts, .Tuple l _ _ => mTs N sr ts l
  | _, _, _ => false
def mTs (N : List Str) : Scope → Tgs → List Expr → Bool
  | _, .nil, [] => true
  | sr, .cons t ts, x :: l => mT N sr t x && mTs N sr ts l
  | _, _, _ => false
end
end Ev
set_option Elab.async false
set_option linter.all false
set_option maxRecDepth 100000
set_option maxHeartbeats 1000000
/-! EvB9: the context, the readings; expressions. -/
namespace Ev
open PySem PySem.Spec PyProof.Rows L2

/-- locals -/
def RL (K : PySem.W.Frag) (H : Hp) (ds : Loc) (σ : L2.St) : Prop := ds.length = σ.length ∧ ∀ (i : Nat) d, ds[i]? = some (some d) → ∃ v, σ[i]? = some (some v) ∧ RV K H d v
theorem RL.mono {K : PySem.W.Frag} {H H' : Hp} {ds : Loc} {σ : L2.St} (st : Stay H H') (r : RL K H ds σ) : RL K H' ds σ :=
  ⟨r.1, fun i d e => let ⟨v, h1, h2⟩ := r.2 i d e; ⟨v, h1, h2.mono st⟩⟩
theorem RL.set {K : PySem.W.Frag} {H : Hp} {ds : Loc} {σ : L2.St} (r : RL K H ds σ) (i : Nat) {d : D} {v : V} (rv : RV K H d v) : RL K H (ds.set i (some d)) (σ.set i (some v)) := by
  refine ⟨by rw [List.length_set, List.length_set]; exact r.1, fun j x e => ?_⟩
  by_cases h : i = j
  · subst h
    by_cases hl : i < ds.length
    · rw [List.getElem?_set_self hl] at e
      cases e
      exact ⟨v, by rw [List.getElem?_set_self (by rw [← r.1]; exact hl)], rv⟩
    · rw [List.getElem?_eq_none (by rw [List.length_set]; omega)] at e
      cases e
  · rw [List.getElem?_set_ne h] at e
    obtain ⟨w, h1, h2⟩ := r.2 j x e
    exact ⟨w, by rw [List.getElem?_set_ne h]; exact h1, h2⟩
theorem RL.wipe {K : PySem.W.Frag} {H : Hp} {ds : Loc} {σ : L2.St} (r : RL K H ds σ) : ∀ vs : List Nat, RL K H (Ev.wipe ds vs) (L2.wipe σ vs)
  | [] => r
  | v :: vs => by
    have ih := RL.wipe r vs
    refine ⟨by simp only [Ev.wipe, L2.wipe, List.length_set]; exact ih.1, fun j x e => ?_⟩
    simp only [Ev.wipe, L2.wipe] at e ⊢
    by_cases h : v = j
    · subst h
      by_cases hl : v < (Ev.wipe ds vs).length
      · rw [List.getElem?_set_self hl] at e; cases e
      · rw [List.getElem?_eq_none (by rw [List.length_set]; omega)] at e; cases e
    · rw [List.getElem?_set_ne h] at e
      obtain ⟨w, h1, h2⟩ := ih.2 j x e
      exact ⟨w, by rw [List.getElem?_set_ne h]; exact h1, h2⟩

/-- an exception -/
def RX (K : PySem.W.Frag) (mg : Str → Option Value) (H : Hp) (x : Xc) (cls : Value) (dd : Option Addr) : Prop :=
  ∃ C a fs, mg x.cls = some (.ref C) ∧ cls = .ref C ∧ dd = some a ∧ H a = some (.xd fs) ∧ ∀ f d, (f, d) ∈ x.fs → ∃ v, fs.lookup f = some v ∧ RV K H d v
/-- what a def of the table promises -/
def spOf (K : PySem.W.Frag) (mg : Str → Option Value) (p : Prog) (n : Nat) (f : Str) (np : Nat) : Sp := fun vs H Q E => vs.length = np ∧ ∃ ds S Kk Ek, RVs K H ds vs ∧ RepS K S H ∧ callW p n f ds S Kk Ek ∧ Aft K S H Kk Q ∧
  ∀ x S' cls dd H', Ek x S' → Ext S H S' H' → RepS K S' H' → RX K mg H' x cls dd → E cls dd H'
def bNames : List Str := ["len", "abs", "min", "max", "int", "bool", "list", "tuple", "sum", "any", "all", "sorted", "str", "isinstance", "dict", "range", "enumerate", "zip", "reversed"]
structure Ok (p : Prog) (n : Nat) (X : Cx) : Prop where
  calm : X.calm = true
  nd : X.N.Nodup
  hu : X.A.units + 66 < cLine
  room : Room n X.A
  bi : ∀ x ∈ bNames, X.mg x = none
  fn : ∀ f d, p f = some d → ∃ a fd ps, X.mg f = some (.ref a) ∧ PySem.W.keepIn X.K (.ref a) = true ∧ Binds X.K fd ps [] ∧ ps.length = d.np ∧ FnOk X.prog X.w X.K X.mg X.base (L2.CX X.prog X.w) n a fd ps (spOf X.K X.mg p n f d.np)
theorem Ok.blk {p : Prog} {n : Nat} {X : Cx} (ok : Ok p n X) (s : Shared) (H : Hp) (scope : Scope) (cenv : Env) (fp : List Addr) : Ok p n (X.blk s H scope cenv fp) :=
  ⟨ok.calm, ok.nd, ok.hu, ok.room, ok.bi, ok.fn⟩

/-! ### readings -/
def XKs (X : Cx) (W : WX) (σ : L2.St) (S : Sto) (H : Hp) (E : XK) : Prop := ∀ x S' cls dd H', E x S' → Ext S H S' H' → RepS X.K S' H' → RX X.K X.mg H' x cls dd → W cls dd σ H'
section
variable {X : Cx} {W : WX} {σ : L2.St} {S S1 : Sto} {H H1 : Hp} {E : XK}
theorem XKs.go (x : XKs X W σ S H E) (e : Ext S H S1 H1) : XKs X W σ S1 H1 E := fun a S' c d H' h1 h2 h3 h4 => x a S' c d H' h1 (e.trans h2) h3 h4
theorem Aft.go {K : PySem.W.Frag} {Kk : DK} {Q : VK} (a : Aft K S H Kk Q) (e : Ext S H S1 H1) : Aft K S1 H1 Kk Q := fun d S' v H' h1 h2 h3 h4 => a d S' v H' h1 (e.trans h2) h3 h4
end
def lE (X : Cx) (C : CallT) (W : WX) (e : Ex) : TE := fun σ H Q => ∃ ds S E Kk, RL X.K H ds σ ∧ RepS X.K S H ∧ exW C e ds E S Kk ∧ Aft X.K S H Kk Q ∧ XKs X W σ S H E
def lEs (X : Cx) (C : CallT) (W : WX) (e : Exs) : TA := fun σ H Q => ∃ ds S E Kk, RL X.K H ds σ ∧ RepS X.K S H ∧ exsW C e ds E S Kk ∧
  (∀ l S' vs H', Kk l S' → Ext S H S' H' → RepS X.K S' H' → RVs X.K H' l vs → Q vs H') ∧ XKs X W σ S H E
def lT (X : Cx) (C : CallT) (W : WX) (e : Ex) : TT := fun σ H Q => ∃ ds S E Kk, RL X.K H ds σ ∧ RepS X.K S H ∧ exW C e ds E S Kk ∧
  (∀ d S' H', Kk d S' → Ext S H S' H' → RepS X.K S' H' → ∃ b, truth? S' d = some b ∧ Q b H') ∧ XKs X W σ S H E
def lO (X : Cx) (C : CallT) (W : WX) (e : Oe) : TO := fun σ H Q => ∃ ds S E Kk, RL X.K H ds σ ∧ RepS X.K S H ∧ oeW C e ds E S Kk ∧
  (∀ o S' H', Kk o S' → Ext S H S' H' → RepS X.K S' H' → Q o H') ∧ XKs X W σ S H E
def lC (X : Cx) (C : CallT) (e : Oe) : TT := fun σ H Q => ∃ ds S Kk, RL X.K H ds σ ∧ RepS X.K S H ∧ ocW C e ds S Kk ∧
  (∀ b S' H', Kk b S' → Ext S H S' H' → RepS X.K S' H' → Q b H')
/-- an iterator that takes just these items -/
structure ItOk (K : PySem.W.Frag) (l : List D) (chk : Sto → Prop) (S0 : Sto) (H0 : Hp) (J : L2.It) : Prop where
  stop : ∀ S H, RepS K S H → chk S → Ext S0 H0 S H → J.stop l.length H
  go : ∀ i S H, i < l.length → RepS K S H → chk S → Ext S0 H0 S H → J.go i H
  yld : ∀ i S H x H', i < l.length → RepS K S H → chk S → Ext S0 H0 S H → J.yld i H x H' → ∃ d, l[i]? = some d ∧ RV K H' d x ∧ Ext S H S H' ∧ RepS K S H'
def lI (X : Cx) (C : CallT) (W : WX) (it : It) : TI := fun σ H R => ∃ ds S E Kk, RL X.K H ds σ ∧ RepS X.K S H ∧ itW C it ds E S Kk ∧
  (∀ l chk S' J H', Kk l chk S' → Ext S H S' H' → RepS X.K S' H' → ItOk X.K l chk S' H' J → R J H') ∧ XKs X W σ S H E

theorem _root_.L2.PE.imp {X : Cx} {e : Expr} {t t' : TE} (h : PE X e t) (hi : ∀ σ H Q, t' σ H Q → t σ H Q) : PE X e t' := ⟨fun pins s σ H Q I w => h.run pins s σ H Q I (hi σ H Q w)⟩
theorem _root_.L2.PT.imp {X : Cx} {e : Expr} {t t' : TT} (h : PT X e t) (hi : ∀ σ H Q, t' σ H Q → t σ H Q) : PT X e t' := ⟨fun pins s σ H Q I w => h.run pins s σ H Q I (hi σ H Q w)⟩
theorem _root_.L2.PW.imp {X : Cx} {e : Expr} {t t' : TT} (h : PW X e t) (hi : ∀ σ H Q, t' σ H Q → t σ H Q) : PW X e t' := ⟨fun wh pins s σ H Q I w => h.run wh pins s σ H Q I (hi σ H Q w)⟩
theorem _root_.L2.PA.imp {X : Cx} {e : List Expr} {t t' : TA} (h : PA X e t) (hi : ∀ σ H Q, t' σ H Q → t σ H Q) : PA X e t' := ⟨fun pos pins s σ H Q I w => h.run pos pins s σ H Q I (hi σ H Q w)⟩
theorem _root_.L2.PO.imp {X : Cx} {e : Option Expr} {t t' : TO} (h : PO X e t) (hi : ∀ σ H Q, t' σ H Q → t σ H Q) : PO X e t' := ⟨fun pins s σ H Q I w => h.run pins s σ H Q I (hi σ H Q w)⟩
theorem _root_.L2.PI.imp {X : Cx} {t e : Expr} {w w' : TI} (h : PI X t e w) (hi : ∀ σ H R, w' σ H R → w σ H R) : PI X t e w' := ⟨fun pins s σ H R I q => h.run pins s σ H R I (hi σ H R q)⟩

/-! ### what a match tells of the text -/
def isStar : Expr → Bool
  | .Starred _ _ => true
  | _ => false
def isSl : Expr → Bool
  | .Slice _ _ _ _ => true
  | _ => false
theorem star_cons {x : Expr} {l : List Expr} {env : Env} (h : isStar x = false) : starEach (x :: l) env = (false, eval x env) :: starEach l env := by
  cases x <;> first | rfl | cases h
theorem plainIx {x : Expr} (h : isSl x = false) : PlainIx x := fun o i => by
  cases x <;> first | rfl | cases h
theorem noMark {x : Expr} (h : notSet x = true) (op : CmpOp) : behindInMarks op x = false := by
  cases x <;> first | rfl | cases h
theorem noSup_ok {x : Expr} (h : noSup x = true) (m : Str) (env : Env) : attributeBase x m env (eval x env) = eval x env := by
  cases x with
  | Call f args kws pos =>
    cases args with
    | nil => cases h
    | cons a r => cases f <;> rfl
  | _ => rfl
theorem mE_pl {G N : List Str} {sc : Scope} {e : Ex} {x : Expr} (h : mE G N sc e x = true) : isStar x = false ∧ isSl x = false ∧ notSet x = true := by
  cases x with
  | Starred v p => cases e <;> first | (cases h; done) | simp [mE] at h
  | Slice l u s p => cases e <;> first | (cases h; done) | simp [mE] at h
  | Set l k p => cases e <;> first | (cases h; done) | simp [mE] at h
  | _ => exact ⟨rfl, rfl, rfl⟩
end Ev
set_option Elab.async false
set_option linter.all false
set_option maxRecDepth 100000
set_option maxHeartbeats 1000000
/-! EvC1: rules for the expressions, one by one. -/
namespace Ev
open PySem PySem.Spec PyProof.Rows L2

section
variable {X : Cx} {C : CallT} {W : WX} {p : Prog} {n : Nat} {x y z : Expr} {pos : Pos}
theorem s_var {i : Nat} {nm : Str} (hN : X.N[i]? = some nm) (hv : visB X.env.scope nm = true) (hp : plainN nm = true) : PE X (.Name nm pos) (lE X C W (.var i)) := by
  unfold plainN at hp
  simp only [Bool.and_eq_true, Bool.not_eq_true'] at hp
  have v : Vis X.env.scope nm := by
    unfold visB at hv
    split at hv <;> first | exact .inl (by assumption) | exact .inr (.inl (by assumption)) | exact .inr (.inr (by assumption)) | cases hv
  refine (pe_var hN v hp.1.1 hp.1.2).imp fun σ H Q ⟨ds, S, E, Kk, rl, rs, ⟨d, e, k⟩, aft, xk⟩ => ?_
  obtain ⟨w, h1, h2⟩ := rl.2 i d e
  exact ⟨w, h1, aft.self rs k h2⟩
theorem s_non {j} : PE X (.Constant .none j pos) (lE X C W .non) := pe_non.imp fun σ H Q ⟨ds, S, E, Kk, rl, rs, k, aft, xk⟩ => aft.self rs k .non
theorem s_bl {b j} : PE X (.Constant (.bool b) j pos) (lE X C W (.bl b)) := pe_bl.imp fun σ H Q ⟨ds, S, E, Kk, rl, rs, k, aft, xk⟩ => aft.self rs k (.bl b)
theorem s_int {b j} : PE X (.Constant (.int b) j pos) (lE X C W (.int b)) := pe_int.imp fun σ H Q ⟨ds, S, E, Kk, rl, rs, k, aft, xk⟩ => aft.self rs k (.int b)
theorem s_str {b j} : PE X (.Constant (.str b) j pos) (lE X C W (.str b)) := pe_str.imp fun σ H Q ⟨ds, S, E, Kk, rl, rs, k, aft, xk⟩ => aft.self rs k (.str b)
theorem s_dic0 : PE X (.Dict [] [] pos) (lE X C W .dic0) := pe_dnewK.imp fun σ H Q ⟨ds, S, E, Kk, rl, rs, k, aft, xk⟩ q hq =>
  aft _ _ _ _ (k q (rs.ne hq)) (Ext.made rs hq) (rs.made hq ⟨[], upd_same, .nil⟩) (.ref q)
theorem s_nil : PA X [] (lEs X C W .nil) := pa_nil.imp fun σ H Q ⟨ds, S, E, Kk, rl, rs, k, aft, xk⟩ => aft [] S [] H k Ext.refl rs .nil
theorem s_cons {e : Ex} {es : Exs} {l : List Expr} (ha : PE X x (lE X C W e)) (hr : PA X l (lEs X C W es)) (hs : isStar x = false) : PA X (x :: l) (lEs X C W (.cons e es)) := by
  refine (pa_cons ha hr (star_cons hs)).imp fun σ H Q ⟨ds, S, E, Kk, rl, rs, k, aft, xk⟩ => ?_
  refine ⟨ds, S, E, _, rl, rs, k, fun d S1 v H1 k1 e1 rs1 rv => ?_, xk⟩
  refine ⟨ds, S1, E, _, rl.mono (e1.stay rs), rs1, k1, fun l S2 vs H2 k2 e2 rs2 rvs => ?_, xk.go e1⟩
  exact aft _ S2 _ H2 k2 (e1.trans e2) rs2 (.cons (rv.mono (e2.stay rs1)) rvs)
theorem s_tup {es : Exs} {l : List Expr} {j} (ha : PA X l (lEs X C W es)) : PE X (.Tuple l j pos) (lE X C W (.tup es)) := by
  refine (pe_tup ha).imp fun σ H Q ⟨ds, S, E, Kk, rl, rs, k, aft, xk⟩ => ?_
  refine ⟨ds, S, E, _, rl, rs, k, fun l S1 vs H1 ⟨hz, k1⟩ e1 rs1 rvs => ⟨by rw [← rvs.len, ← line_eq]; exact hz, fun q hq => ?_⟩, xk⟩
  exact (aft.go e1).tup rs1 k1 rvs hq
theorem s_lst {es : Exs} {l : List Expr} (ha : PA X l (lEs X C W es)) : PE X (.List l pos) (lE X C W (.lst es)) := by
  refine (pe_lst ha).imp fun σ H Q ⟨ds, S, E, Kk, rl, rs, k, aft, xk⟩ => ?_
  refine ⟨ds, S, E, _, rl, rs, k, fun l S1 vs H1 ⟨hz, k1⟩ e1 rs1 rvs => ⟨by rw [← rvs.len, ← line_eq]; exact hz, fun q hq => ?_⟩, xk⟩
  exact (aft.go e1).lst rs1 k1 rvs hq
/-- two in a row -/
theorem s_two {a b : Ex} {σ : L2.St} {H : Hp} {R : V → V → Hp → Prop} {ds : Loc} {S : Sto} {E : XK} {K2 : D → D → Sto → Prop} (rl : RL X.K H ds σ) (rs : RepS X.K S H)
    (h : exW C a ds E S fun d S1 => exW C b ds E S1 fun e S2 => K2 d e S2) (xk : XKs X W σ S H E)
    (go : ∀ d e S2 v w H2, K2 d e S2 → Ext S H S2 H2 → RepS X.K S2 H2 → RV X.K H2 d v → RV X.K H2 e w → R v w H2) : lE X C W a σ H fun v H1 => lE X C W b σ H1 fun w H2 => R v w H2 := by
  refine ⟨ds, S, E, _, rl, rs, h, fun d S1 v H1 k1 e1 rs1 rv => ?_, xk⟩
  refine ⟨ds, S1, E, _, rl.mono (e1.stay rs), rs1, k1, fun e S2 w H2 k2 e2 rs2 rw' => ?_, xk.go e1⟩
  exact go d e S2 v w H2 k2 (e1.trans e2) rs2 (rv.mono (e2.stay rs1)) rw'
theorem s_bin {op : Bop} {a b : Ex} (ha : PE X x (lE X C W a)) (hb : PE X y (lE X C W b)) : PE X (.BinOp x (bopOf op) y pos) (lE X C W (.bin op a b)) := by
  refine (pe_op (op_bin op) ha hb).imp fun σ H Q ⟨ds, S, E, Kk, rl, rs, k, aft, xk⟩ => ?_
  exact s_two (R := fun v w H2 => rBin X.K op v w H2 Q) rl rs k xk fun d e S2 v w H2 k2 e2 rs2 r1 r2 => ⟨d, e, S2, Kk, r1, r2, rs2, k2, aft.go e2⟩
theorem s_neg {a : Ex} (ha : PE X x (lE X C W a)) : PE X (.UnaryOp .USub x pos) (lE X C W (.neg a)) := by
  refine (pe_un un_neg ha).imp fun σ H Q ⟨ds, S, E, Kk, rl, rs, k, aft, xk⟩ => ?_
  refine ⟨ds, S, E, _, rl, rs, k, fun d S1 v H1 ⟨i, ei, k1⟩ e1 rs1 rv => ?_, xk⟩
  subst ei
  cases rv
  exact ⟨i, rfl, (aft.go e1).self rs1 k1 (.int _)⟩
theorem s_inv {a : Ex} (ha : PE X x (lE X C W a)) : PE X (.UnaryOp .Invert x pos) (lE X C W (.inv a)) := by
  refine (pe_un un_inv ha).imp fun σ H Q ⟨ds, S, E, Kk, rl, rs, k, aft, xk⟩ => ?_
  refine ⟨ds, S, E, _, rl, rs, k, fun d S1 v H1 ⟨i, ei, k1⟩ e1 rs1 rv => ?_, xk⟩
  subst ei
  cases rv
  exact ⟨i, rfl, (aft.go e1).self rs1 k1 (.int _)⟩
theorem s_not {a : Ex} (ha : PE X x (lE X C W a)) : PE X (.UnaryOp .Not x pos) (lE X C W (.not a)) := by
  refine (pe_notT ha).imp fun σ H Q ⟨ds, S, E, Kk, rl, rs, k, aft, xk⟩ => ?_
  refine ⟨ds, S, E, _, rl, rs, k, fun d S1 v H1 ⟨b, eb, k1⟩ e1 rs1 rv => ?_, xk⟩
  exact ⟨b, truth_ok rs1 rv eb, (aft.go e1).self rs1 k1 (.bl _)⟩
theorem s_cmp {op : Cop} {a b : Ex} (hu : X.A.units + 66 < cLine) (ha : PE X x (lE X C W a)) (hb : PE X y (lE X C W b)) (hm : notSet y = true) : PE X (.Compare x [copOf op] [y] pos) (lE X C W (.cmp op a b)) := by
  refine (pe_cmpR (op_cmp hu op) ha hb (noMark hm _)).imp fun σ H Q ⟨ds, S, E, Kk, rl, rs, k, aft, xk⟩ => ?_
  exact s_two (R := fun v w H2 => rCmp X.K op v w H2 Q) rl rs k xk fun d e S2 v w H2 k2 e2 rs2 r1 r2 => ⟨d, e, S2, _, r1, r2, rs2, k2, fun c kc => (aft.go e2).self rs2 kc (.bl c)⟩
theorem s_chn {o1 o2 : Cop} {a b c : Ex} (hu : X.A.units + 66 < cLine) (ha : PE X x (lE X C W a)) (hb : PE X y (lE X C W b)) (hc : PE X z (lE X C W c)) (hm : notSet z = true) :
    PE X (.Compare x [copOf o1, copOf o2] [y, z] pos) (lE X C W (.chn o1 o2 a b c)) := by
  refine (pe_chain (op_cmp hu o1) (op_cmp hu o2) ha hb hc (show behindInMarks (copOf o2) z = false from noMark hm _)).imp fun σ H Q ⟨ds, S, E, Kk, rl, rs, k, aft, xk⟩ => ?_
  refine s_two (R := fun v w H2 => rCmp X.K o1 v w H2 _) rl rs k xk fun d e S2 v w H2 k2 e2 rs2 r1 r2 => ⟨d, e, S2, _, r1, r2, rs2, k2, fun c kc => ⟨c, rfl, ?_⟩⟩
  cases c with
  | false =>
    rw [if_neg Bool.false_ne_true] at kc ⊢
    exact (aft.go e2).self rs2 kc (.bl false)
  | true =>
    rw [if_pos rfl] at kc ⊢
    refine ⟨ds, S2, E, _, rl.mono (e2.stay rs), rs2, kc, fun f S3 u H3 k3 e3 rs3 r3 => ?_, xk.go e2⟩
    exact ⟨e, f, S3, _, r2.mono (e3.stay rs2), r3, rs3, k3, fun c' kc' => ((aft.go e2).go e3).self rs3 kc' (.bl c')⟩
theorem s_and {a b : Ex} {r : List Expr} (ha : PE X x (lE X C W a)) (hb : PE X (.BoolOp .And (y :: r) pos) (lE X C W b)) : PE X (.BoolOp .And (x :: y :: r) pos) (lE X C W (.and a b)) := by
  refine (pe_andT ha hb).imp fun σ H Q ⟨ds, S, E, Kk, rl, rs, k, aft, xk⟩ => ?_
  refine ⟨ds, S, E, _, rl, rs, k, fun d S1 v H1 ⟨c, ec, k1⟩ e1 rs1 rv => ⟨c, truth_ok rs1 rv ec, ?_⟩, xk⟩
  cases c with
  | false =>
    rw [if_neg Bool.false_ne_true] at k1 ⊢
    exact (aft.go e1).self rs1 k1 rv
  | true =>
    rw [if_pos rfl] at k1 ⊢
    exact ⟨ds, S1, E, Kk, rl.mono (e1.stay rs), rs1, k1, aft.go e1, xk.go e1⟩
theorem s_or {a b : Ex} {r : List Expr} (ha : PE X x (lE X C W a)) (hb : PE X (.BoolOp .Or (y :: r) pos) (lE X C W b)) : PE X (.BoolOp .Or (x :: y :: r) pos) (lE X C W (.or a b)) := by
  refine (pe_orT ha hb).imp fun σ H Q ⟨ds, S, E, Kk, rl, rs, k, aft, xk⟩ => ?_
  refine ⟨ds, S, E, _, rl, rs, k, fun d S1 v H1 ⟨c, ec, k1⟩ e1 rs1 rv => ⟨c, truth_ok rs1 rv ec, ?_⟩, xk⟩
  cases c with
  | true =>
    rw [if_pos rfl] at k1 ⊢
    exact (aft.go e1).self rs1 k1 rv
  | false =>
    rw [if_neg Bool.false_ne_true] at k1 ⊢
    exact ⟨ds, S1, E, Kk, rl.mono (e1.stay rs), rs1, k1, aft.go e1, xk.go e1⟩
theorem s_ite {c a b : Ex} (hc : PT X x (lT X C W c)) (ha : PE X y (lE X C W a)) (hb : PE X z (lE X C W b)) : PE X (.IfExp x y z pos) (lE X C W (.ite c a b)) := by
  refine (pe_ifExp hc ha hb).imp fun σ H Q ⟨ds, S, E, Kk, rl, rs, k, aft, xk⟩ => ?_
  refine ⟨ds, S, E, _, rl, rs, k, fun d S1 H1 ⟨c, ec, k1⟩ e1 rs1 => ⟨c, ec, ?_⟩, xk⟩
  cases c with
  | true =>
    rw [if_pos rfl] at k1 ⊢
    exact ⟨ds, S1, E, Kk, rl.mono (e1.stay rs), rs1, k1, aft.go e1, xk.go e1⟩
  | false =>
    rw [if_neg Bool.false_ne_true] at k1 ⊢
    exact ⟨ds, S1, E, Kk, rl.mono (e1.stay rs), rs1, k1, aft.go e1, xk.go e1⟩
theorem s_idx {a b : Ex} (hu : X.A.units + 66 < cLine) (ha : PE X x (lE X C W a)) (hb : PE X y (lE X C W b)) (hs : isSl y = false) : PE X (.Subscript x y pos) (lE X C W (.idx a b)) := by
  refine (pe_ix (ix_any hu) ha hb (plainIx hs)).imp fun σ H Q ⟨ds, S, E, Kk, rl, rs, k, aft, xk⟩ => ?_
  exact s_two (R := fun v w H2 => rIdx X.K v w H2 Q) rl rs k xk fun d e S2 v w H2 k2 e2 rs2 r1 r2 => ⟨d, e, S2, _, r1, r2, rs2, k2, fun d v kd rd => (aft.go e2).self rs2 kd rd⟩
theorem s_no : PO X none (lO X C W .no) := po_none.imp fun σ H Q ⟨ds, S, E, Kk, rl, rs, k, aft, xk⟩ => aft none S H k Ext.refl rs
theorem s_yes {e : Ex} (ha : PE X x (lE X C W e)) : PO X (some x) (lO X C W (.yes e)) := by
  refine (po_some ha).imp fun σ H Q ⟨ds, S, E, Kk, rl, rs, k, aft, xk⟩ => ?_
  refine ⟨ds, S, E, _, rl, rs, k, fun d S1 v H1 ⟨i, ei, k1⟩ e1 rs1 rv => ?_, xk⟩
  subst ei
  cases rv
  exact ⟨i, rfl, aft _ S1 H1 k1 e1 rs1⟩
theorem s_slc {a : Ex} {lo hi : Oe} {l h : Option Expr} {p2 : Pos} (ha : PE X x (lE X C W a)) (hl : PO X l (lO X C W lo)) (hh : PO X h (lO X C W hi)) : PE X (.Subscript x (.Slice l h none p2) pos) (lE X C W (.slc a lo hi)) := by
  refine (pe_slice slc_any ha hl hh).imp fun σ H Q ⟨ds, S, E, Kk, rl, rs, k, aft, xk⟩ => ?_
  refine ⟨ds, S, E, _, rl, rs, k, fun d S1 v H1 k1 e1 rs1 rv => ?_, xk⟩
  refine ⟨ds, S1, E, _, rl.mono (e1.stay rs), rs1, k1, fun o S2 H2 k2 e2 rs2 => ?_, xk.go e1⟩
  refine ⟨ds, S2, E, _, rl.mono ((e1.trans e2).stay rs), rs2, k2, fun o2 S3 H3 k3 e3 rs3 => ?_, (xk.go e1).go e2⟩
  exact ⟨d, S3, Kk, rv.mono ((e2.trans e3).stay rs1), rs3, k3, aft.go ((e1.trans e2).trans e3)⟩
theorem s_isi {a : Ex} {t : Ty} {g T : Str} {p1 p2 : Pos} (ok : Ok p n X) (ha : PE X x (lE X C W a)) (hst : isStar x = false) (hg : g = Str.ofString "isinstance") (hG : gloB X.env.scope g = true) (hT : T = Str.ofString (tyOf t)) (hTG : gloB X.env.scope T = true) :
    PE X (.Call (.Name g p1) [x, .Name T p2] [] pos) (lE X C W (.isi a t)) := by
  have gl : ∀ {q : Str}, gloB X.env.scope q = true → Gl X q := fun {q} h => by
    unfold gloB at h
    split at h <;> first | assumption | cases h
  have hm : X.mg T = none := by
    subst hT
    cases t <;> exact ok.bi _ (by decide +kernel)
  have hv : bootBuiltins T = some (.type (tyOf t)) := by
    subst hT
    cases t <;> decide +kernel
  have nn : T ≠ "__name__" := by
    subst hT
    cases t <;> decide +kernel
  have nd : (T == ("__debug__" : Str)) = false := by
    subst hT
    cases t <;> decide +kernel
  subst hg
  have pT : PE X (.Name T p2) (tC (.ty (tyOf t))) := pe_bltn (gl hTG) hm hv rfl nn nd
  refine (pe_callB (call_isi1 t) (gl hG) (ok.bi _ (by decide +kernel)) (by decide +kernel) (pa_cons ha (pa_cons pT pa_nil) (star_cons hst)) (by decide +kernel) (by decide +kernel) (star_cons hst)).imp fun σ H Q ⟨ds, S, E, Kk, rl, rs, k, aft, xk⟩ => ?_
  refine ⟨ds, S, E, _, rl, rs, k, fun d S1 v H1 k1 e1 rs1 rv => ?_, xk⟩
  exact ⟨v, d, S1, _, rfl, rv, rs1, k1, fun c kc => (aft.go e1).self rs1 kc (.bl c)⟩
end
end Ev
set_option Elab.async false
set_option linter.all false
set_option maxRecDepth 100000
set_option maxHeartbeats 1000000
/-! EvC2: calls, methods, tests. -/
namespace Ev
open PySem PySem.Spec PyProof.Rows L2

theorem gl_of {X : Cx} {q : Str} (h : gloB X.env.scope q = true) : Gl X q := by
  unfold gloB at h
  split at h <;> first | assumption | cases h
section
variable {X : Cx} {C : CallT} {W : WX} {p : Prog} {n : Nat} {x y z : Expr} {pos : Pos}
/-- the arguments are plain -/
structure Pl (X : Cx) (l : List Expr) : Prop where
  all : starEach l X.env = l.map fun e => (false, eval e X.env)
theorem Pl.nil : Pl X [] := ⟨rfl⟩
theorem Pl.cons {l : List Expr} (h : isStar x = false) (r : Pl X l) : Pl X (x :: l) := ⟨by rw [star_cons h, r.all]; rfl⟩
theorem Pl.any {l : List Expr} (r : Pl X l) (pos : Pos) : (backTo pos (starEach l X.env)).any (·.1) = false := by
  rw [r.all]
  unfold backTo
  simp [Function.comp_def]
theorem mEs_pl {G N : List Str} {sc : Scope} : ∀ {es : Exs} {l : List Expr}, mEs G N sc es l = true → Pl X l
  | .nil, [], _ => .nil
  | .cons e es, x :: l, h => by
    simp only [mEs, Bool.and_eq_true] at h
    exact .cons (mE_pl h.1).1 (mEs_pl h.2)
  | .nil, _ :: _, h => by simp [mEs] at h
  | .cons _ _, [], h => by simp [mEs] at h

/-! ### calls -/
theorem call_go {σ : L2.St} {S S1 : Sto} {H H1 : Hp} {E : XK} {Kk : DK} {Q : VK} {f : Str} {l : List D} {vs : List V} {np : Nat} (hl : l.length = np) (e1 : Ext S H S1 H1) (rs1 : RepS X.K S1 H1) (rvs : RVs X.K H1 l vs) (k : callW p n f l S1 Kk E)
    (aft : Aft X.K S H Kk Q) (xk : XKs X W σ S H E) : spOf X.K X.mg p n f np vs H1 Q (WE W σ) := by
  refine ⟨by rw [← rvs.len]; exact hl, l, S1, Kk, E, rvs, rs1, k, aft.go e1, fun x S' cls dd H' h1 h2 h3 h4 => xk x S' cls dd H' h1 (e1.trans h2) h3 h4⟩
theorem call_len {f : Str} {l : List D} {S : Sto} {Kk : DK} {E : XK} {d : Df} (h : callW p n f l S Kk E) (hf : p f = some d) : l.length = d.np := by
  cases n with
  | zero => exact h.elim
  | succ n =>
    simp only [callW, hf] at h
    exact h.1
theorem call_has {f : Str} {l : List D} {S : Sto} {Kk : DK} {E : XK} (h : callW p n f l S Kk E) : ∃ d, p f = some d := by
  cases n with
  | zero => exact h.elim
  | succ n =>
    cases hf : p f with
    | none => simp only [callW, hf] at h
    | some d => exact ⟨d, rfl⟩
theorem not_debug {f : Str} (h : plainN f = true) : (f == ("__debug__" : Str)) = false := by
  unfold plainN at h
  simp only [Bool.and_eq_true, Bool.not_eq_true'] at h
  exact h.1.1
theorem s_callI {f : Str} {es : Exs} {d : Df} (hf : p f = some d) : ∀ σ H Q, lE X (callW p n) W (.call f es) σ H Q → lEs X (callW p n) W es σ H fun vs H1 => spOf X.K X.mg p n f d.np vs H1 Q (WE W σ) := fun σ H Q ⟨ds, S, E, Kk, rl, rs, k, aft, xk⟩ =>
    ⟨ds, S, E, _, rl, rs, k, fun l S1 vs H1 k1 e1 rs1 rvs => call_go (call_len k1 hf) e1 rs1 rvs k1 aft xk, xk⟩
theorem s_call0 {f : Str} {q : Pos} {d : Df} (ok : Ok p n X) (tk : Takes X W) (hp : plainN f = true) (hg : gloB X.env.scope f = true) (hf : p f = some d) :
    PE X (.Call (.Name f q) [] [] pos) (lE X (callW p n) W (.call f .nil)) := by
  obtain ⟨a, fd, ps, hm, hk, hb, hl, F⟩ := ok.fn f d hf
  refine ⟨fun pins s σ H Q I ⟨ds, S, E, Kk, rl, rs, k, aft, xk⟩ => ?_⟩
  refine wpAny_Call_Name_kw (ld_glob I (gl_of hg) hm ?_ (not_debug hp))
  exact PySem.W.callWith_K0 I.kIn hk (run_fnS (us := []) F ok.room hb (passAt tk σ) I .nil (call_go (call_len k hf) Ext.refl rs .nil k aft xk))
theorem s_call {f : Str} {es : Exs} {e : Expr} {l : List Expr} {q : Pos} {d : Df} (ok : Ok p n X) (tk : Takes X W) (hp : plainN f = true) (hg : gloB X.env.scope f = true) (hf : p f = some d) (ha : PA X (e :: l) (lEs X (callW p n) W es)) (hs : isStar e = false) (pl : Pl X l) :
    PE X (.Call (.Name f q) (e :: l) [] pos) (lE X (callW p n) W (.call f es)) := by
  obtain ⟨a, fd, ps, hm, hk, hb, hl, F⟩ := ok.fn f d hf
  exact (pe_callS (E := WE W) F ok.room (gl_of hg) hm hk hb (fun σ => passAt tk σ) ha (not_debug hp) (star_cons hs) (pl.any pos)).imp (s_callI hf)
/-! ### builtins -/
theorem bf_boot (f : Bf) : bootBuiltins (Str.ofString (bfName f)) = some (bfVal f) := by cases f <;> decide +kernel
theorem bf_name (f : Bf) : Str.ofString (bfName f) ≠ Str.ofString "__name__" := by cases f <;> decide +kernel
theorem bf_debug (f : Bf) : (Str.ofString (bfName f) == ("__debug__" : Str)) = false := by cases f <;> decide +kernel
theorem bf_in (f : Bf) : Str.ofString (bfName f) ∈ bNames := by cases f <;> decide +kernel
theorem bf_val (f : Bf) : (∃ i, bfVal f = .builtin i) ∨ ∃ i, bfVal f = .type i := by
  cases f <;> first | exact .inl ⟨_, rfl⟩ | exact .inr ⟨_, rfl⟩
theorem s_blt {f : Bf} {es : Exs} {e : Expr} {l : List Expr} {q : Pos} (ok : Ok p n X) (hg : gloB X.env.scope (Str.ofString (bfName f)) = true) (ha : PA X (e :: l) (lEs X C W es)) (hs : isStar e = false) (pl : Pl X l) :
    PE X (.Call (.Name (Str.ofString (bfName f)) q) (e :: l) [] pos) (lE X C W (.blt f es)) := by
  have imp : ∀ σ H Q, lE X C W (.blt f es) σ H Q → tCB (rBlt X.K f) (lEs X C W es) σ H Q := fun σ H Q ⟨ds, S, E, Kk, rl, rs, k, aft, xk⟩ =>
    ⟨ds, S, E, _, rl, rs, k, fun l S1 vs H1 k1 e1 rs1 rvs => ⟨l, S1, Kk, rvs, rs1, k1, aft.go e1⟩, xk⟩
  have hc := call_blt (X := X) ok.calm f
  have hb := bf_boot f
  rcases bf_val f with ⟨i, ei⟩ | ⟨i, ei⟩
  · rw [ei] at hc hb
    exact (pe_callB hc (gl_of hg) (ok.bi _ (bf_in f)) hb ha (bf_name f) (bf_debug f) (star_cons hs) (pl.any pos)).imp imp
  · rw [ei] at hc hb
    exact (pe_callTy hc (gl_of hg) (ok.bi _ (bf_in f)) hb ha (bf_name f) (bf_debug f) (star_cons hs) (pl.any pos)).imp imp
/-! ### methods -/
theorem rMth_append : MtR X "list.append" (rMth X.K .append) := by
  intro pins s σ H x xs v us Q I rx rv ⟨o, as, S, Kk, ro, ra, rs, h, aft⟩
  cases ro with
  | ref m =>
    rcases sto_cases (S := S) (n := m) with e | ⟨l, e⟩ | ⟨l, e⟩ | ⟨c, f, e⟩
    · simp only [mthW, e] at h
    · obtain ⟨ys, hx, rl⟩ := lst_of rs e
      cases ra with
      | nil => simp only [mthW, e] at h
      | @cons d ds w ws r1 r2 =>
        cases r2 with
        | nil =>
          simp only [mthW, e] at h
          exact mt_append pins s σ H _ _ v us Q I rx rv ⟨m, ys, w, rfl, rfl, hx, by rw [← rl.len, ← line_eq]; exact h.1, aft.wrote rs e hx h.2 (rl.app (.cons r1 .nil)) .non⟩
        | cons _ _ => simp only [mthW, e] at h
    · cases as with
      | nil => simp only [mthW, e] at h
      | cons d ds => cases ds <;> simp only [mthW, e] at h
    · simp only [mthW, e] at h
  | int i => cases as <;> simp only [mthW] at h
  | _ => exact h.elim
theorem rMth_extend : MtR X "list.extend" (rMth X.K .extend) := by
  intro pins s σ H x xs v us Q I rx rv ⟨o, as, S, Kk, ro, ra, rs, h, aft⟩
  cases ro with
  | ref m =>
    rcases sto_cases (S := S) (n := m) with e | ⟨l, e⟩ | ⟨l, e⟩ | ⟨c, f, e⟩
    · simp only [mthW, e] at h
    · obtain ⟨ys, hx, rl⟩ := lst_of rs e
      cases ra with
      | nil => simp only [mthW, e] at h
      | @cons d ds w ws r1 r2 =>
        cases r2 with
        | nil =>
          simp only [mthW, e] at h
          obtain ⟨r, e2, hz, k⟩ := h
          cases r1 with
          | @tup l' p zs hp rt =>
            cases e2
            exact mt_extT pins s σ H _ _ v us Q I rx rv ⟨m, p, ys, zs, rfl, rfl, hx, hp, by rw [← rl.len, ← rt.len, ← line_eq]; exact hz, aft.wrote rs e hx k (rl.app rt) .non⟩
          | ref p =>
            rcases sto_cases (S := S) (n := p) with e3 | ⟨l', e3⟩ | ⟨l', e3⟩ | ⟨c, f, e3⟩
            · simp only [seq?, e3] at e2; cases e2
            · simp only [seq?, e3] at e2
              cases e2
              obtain ⟨zs, hp, rt⟩ := lst_of rs e3
              exact mt_extend pins s σ H _ _ v us Q I rx rv ⟨m, p, ys, zs, rfl, rfl, hx, hp, by rw [← rl.len, ← rt.len, ← line_eq]; exact hz, aft.wrote rs e hx k (rl.app rt) .non⟩
            · simp only [seq?, e3] at e2; cases e2
            · simp only [seq?, e3] at e2; cases e2
          | _ => cases e2
        | cons _ _ => simp only [mthW, e] at h
    · cases as with
      | nil => simp only [mthW, e] at h
      | cons d ds => cases ds <;> simp only [mthW, e] at h
    · simp only [mthW, e] at h
  | int i => cases as <;> simp only [mthW] at h
  | _ => exact h.elim
theorem RVs.dropL {K : PySem.W.Frag} {H : Hp} {d : List D} {v : List V} (r : RVs K H d v) : RVs K H d.dropLast v.dropLast := by
  rw [List.dropLast_eq_take, List.dropLast_eq_take, ← r.len]
  exact r.take _
theorem rMth_pop0 : MtR X "list.pop" (rMth X.K .pop0) := by
  intro pins s σ H x xs v us Q I rx rv ⟨o, as, S, Kk, ro, ra, rs, h, aft⟩
  cases ro with
  | ref m =>
    rcases sto_cases (S := S) (n := m) with e | ⟨l, e⟩ | ⟨l, e⟩ | ⟨c, f, e⟩
    · simp only [mthW, e] at h
    · obtain ⟨ys, hx, rl⟩ := lst_of rs e
      cases ra with
      | nil =>
        simp only [mthW, e] at h
        obtain ⟨y, e2, k⟩ := h
        obtain ⟨w, e3, rw'⟩ := rl.get e2
        exact mt_pop pins s σ H _ _ v us Q I rx rv ⟨m, ys, w, rfl, rfl, hx, by rw [← rl.len]; exact e3, aft.wrote rs e hx k rl.dropL rw'⟩
      | cons _ _ => simp only [mthW, e] at h
    · simp only [mthW, e] at h
    · simp only [mthW, e] at h
  | int i => cases as <;> simp only [mthW] at h
  | _ => exact h.elim
theorem ixn_seq {n : Nat} {i : Int} {j : Nat} (h : ixn n i = some j) : seqIndex? i n = some j ∧ j < n ∧ -(n : Int) ≤ i ∧ i < n := by
  unfold ixn at h
  split at h
  · split at h
    · cases h
      rename_i h1 h2
      have h2' : i < (n : Int) := h2
      exact ⟨seqIndex_of h1 h2', by omega, by omega, h2'⟩
    · cases h
  · split at h
    · cases h
      rename_i h1 h2
      have h2' : 0 ≤ i + (n : Int) := h2
      have e : (i + Int.ofNat n).toNat = (i + (n : Int)).toNat := rfl
      rw [e]
      exact ⟨seqIndex_neg (by omega) (by omega), by omega, by omega, by omega⟩
    · cases h
theorem rMth_pop1 : MtR X "list.pop" (rMth X.K .pop1) := by
  intro pins s σ H x xs v us Q I rx rv ⟨o, as, S, Kk, ro, ra, rs, h, aft⟩
  cases ro with
  | ref m =>
    rcases sto_cases (S := S) (n := m) with e | ⟨l, e⟩ | ⟨l, e⟩ | ⟨c, f, e⟩
    · simp only [mthW, e] at h
    · obtain ⟨ys, hx, rl⟩ := lst_of rs e
      cases ra with
      | nil => simp only [mthW, e] at h
      | @cons d ds w ws r1 r2 =>
        cases r2 with
        | nil =>
          cases r1 with
          | int i =>
            simp only [mthW, e] at h
            obtain ⟨j, e2, y, e3, k⟩ := h
            obtain ⟨w, e4, rw'⟩ := rl.get e3
            obtain ⟨h1, h2, h3, h4⟩ := ixn_seq e2
            obtain ⟨hz, _⟩ := I.lstM hx
            have hl := rl.len
            have hn := line63
            exact mt_popAt pins s σ H _ _ v us Q I rx rv ⟨m, ys, i, j, w, rfl, rfl, hx, by omega, by omega, by rw [← hl]; exact h1, e4, aft.wrote rs e hx k (rl.erase j) rw'⟩
          | _ => simp only [mthW, e] at h
        | cons _ _ => cases d <;> simp only [mthW, e] at h
    · cases as with
      | nil => simp only [mthW, e] at h
      | cons d ds => cases ds <;> simp only [mthW, e] at h
    · simp only [mthW, e] at h
  | int i => cases as <;> simp only [mthW] at h
  | _ => exact h.elim
theorem rcv_list {m : Mt} {d : D} {v : V} {S : Sto} {H : Hp} (rs : RepS X.K S H) (r : RV X.K H d v) (h : rcvW m d S) (h1 : m ≠ .bitlen) (h2 : m ≠ .get2) : tyV X.K "list" v H := by
  cases r with
  | ref q =>
    rcases sto_cases (S := S) (n := q) with e | ⟨l, e⟩ | ⟨l, e⟩ | ⟨c, f, e⟩
    · cases m <;> first | exact absurd rfl h1 | exact absurd rfl h2 | (simp only [rcvW, e] at h)
    · obtain ⟨ys, hx, rl⟩ := lst_of rs e
      exact .inl ⟨rfl, ys, .of hx⟩
    · cases m <;> first | exact absurd rfl h1 | exact absurd rfl h2 | (simp only [rcvW, e] at h)
    · cases m <;> first | exact absurd rfl h1 | exact absurd rfl h2 | (simp only [rcvW, e] at h)
  | _ => cases m <;> first | exact absurd rfl h1 | exact absurd rfl h2 | exact h.elim
theorem s_mthI {m : Mt} {o : Ex} {es : Exs} (h1 : m ≠ .bitlen) (h2 : m ≠ .get2) : ∀ σ H Q, lE X C W (.mth m o es) σ H Q → tBM X.K "list" (rMth X.K m) (lE X C W o) (lEs X C W es) σ H Q := fun σ H Q ⟨ds, S, E, Kk, rl, rs, k, aft, xk⟩ => by
  refine ⟨ds, S, E, _, rl, rs, k, fun d S1 v H1 ⟨hr, k1⟩ e1 rs1 rv => ⟨rcv_list rs1 rv hr h1 h2, ?_⟩, xk⟩
  refine ⟨ds, S1, E, _, rl.mono (e1.stay rs), rs1, k1, fun l S2 vs H2 k2 e2 rs2 rvs => ?_, xk.go e1⟩
  exact ⟨d, l, S2, Kk, rv.mono (e2.stay rs1), rvs, rs2, k2, aft.go (e1.trans e2)⟩
theorem few_of {e : Expr} {l : List Expr} (hs : isStar e = false) (pl : Pl X l) (hf : fewB l = true) (cpos : Pos) : (((backTo cpos (starEach (e :: l) X.env)).all (fun x => !x.1) && (backToKw cpos (keywordEach [] X.env)).all (fun x => x.1.isSome)
      && decide ((e :: l).length + ([] : List Keyword).length + (if ([] : List Keyword).isEmpty then 0 else 1) < 30)) = true) := by
  rw [(Pl.cons hs pl).all]
  unfold fewB at hf
  have hf' := of_decide_eq_true hf
  simp [backTo, keywordEach, backToKw, Function.comp_def]
  omega
theorem s_mth {m : Mt} {o : Ex} {es : Exs} {e : Expr} {l : List Expr} {ap : Pos} (h1 : m = .append ∨ m = .extend ∨ m = .pop1) (hn : noSup x = true) (hl : (ap.endLine == pos.line) = true) (hf : fewB l = true) (ho : PE X x (lE X C W o)) (ha : PA X (e :: l) (lEs X C W es)) (hs : isStar e = false) (pl : Pl X l) :
    PE X (.Call (.Attribute x (Str.ofString (mtName m)) ap) (e :: l) [] pos) (lE X C W (.mth m o es)) := by
  rcases h1 with rfl | rfl | rfl
  · exact (pe_bm F.plainAttrs_list F.slot_list_append F.type_list_append rMth_append ho ha (noSup_ok hn _ _) (few_of hs pl hf pos) hl (star_cons hs) (pl.any pos)).imp (s_mthI (by decide) (by decide))
  · exact (pe_bm F.plainAttrs_list F.slot_list_extend F.type_list_extend rMth_extend ho ha (noSup_ok hn _ _) (few_of hs pl hf pos) hl (star_cons hs) (pl.any pos)).imp (s_mthI (by decide) (by decide))
  · exact (pe_bm F.plainAttrs_list F.slot_list_pop F.type_list_pop rMth_pop1 ho ha (noSup_ok hn _ _) (few_of hs pl hf pos) hl (star_cons hs) (pl.any pos)).imp (s_mthI (by decide) (by decide))
theorem s_pop0 {o : Ex} {ap : Pos} (hn : noSup x = true) (hl : (ap.endLine == pos.line) = true) (ho : PE X x (lE X C W o)) : PE X (.Call (.Attribute x (Str.ofString "pop") ap) [] [] pos) (lE X C W (.mth .pop0 o .nil)) := by
  refine (pe_bm0 F.plainAttrs_list F.slot_list_pop F.type_list_pop rMth_pop0 ho (noSup_ok hn _ _) hl).imp fun σ H Q ⟨ds, S, E, Kk, rl, rs, k, aft, xk⟩ => ?_
  refine ⟨ds, S, E, _, rl, rs, k, fun d S1 v H1 ⟨hr, k1⟩ e1 rs1 rv => ⟨rcv_list rs1 rv hr (by decide) (by decide), ?_⟩, xk⟩
  exact ⟨d, [], S1, Kk, rv, .nil, rs1, k1, aft.go e1⟩
theorem s_bits {o : Ex} {ap : Pos} (hn : noSup x = true) (hl : (ap.endLine == pos.line) = true) (ho : PE X x (lE X C W o)) : PE X (.Call (.Attribute x (Str.ofString "bit_length") ap) [] [] pos) (lE X C W (.mth .bitlen o .nil)) := by
  refine (pe_bits ho (noSup_ok hn _ _) hl).imp fun σ H Q ⟨ds, S, E, Kk, rl, rs, k, aft, xk⟩ => ?_
  refine ⟨ds, S, E, _, rl, rs, k, fun d S1 v H1 ⟨hr, k1⟩ e1 rs1 rv => ?_, xk⟩
  cases rv with
  | int i =>
    refine ⟨i, rfl, (aft.go e1).self rs1 ?_ (.int _)⟩
    have k2 : Kk (.int (blen i)) S1 := k1
    have e : blen i = ((Builtin.Int.intBits i : Nat) : Int) := by
      unfold blen Builtin.Int.intBits
      by_cases h : i = 0
      · subst h; rfl
      · rw [if_neg h, if_neg (by simpa using h)]
        rfl
    rw [← e]
    exact k2
  | _ => exact hr.elim
theorem s_get2 {o : Ex} {a b : Ex} {ap : Pos} (hu : X.A.units + 66 < cLine) (hn : noSup x = true) (hl : (ap.endLine == pos.line) = true) (ho : PE X x (lE X C W o)) (ha : PE X y (lE X C W a)) (hb : PE X z (lE X C W b)) (h1 : isStar y = false) (h2 : isStar z = false) :
    PE X (.Call (.Attribute x (Str.ofString "get") ap) [y, z] [] pos) (lE X C W (.mth .get2 o (.cons a (.cons b .nil)))) := by
  have pl : Pl X [y, z] := .cons h1 (.cons h2 .nil)
  refine (pe_dget2 (by omega) ho ha hb ⟨noSup_ok hn _ _, few_of h1 (.cons h2 .nil) rfl pos, hl, by rw [pl.all]; rfl⟩).imp fun σ H Q ⟨ds, S, E, Kk, rl, rs, k, aft, xk⟩ => ?_
  refine ⟨ds, S, E, _, rl, rs, k, fun d S1 v H1 ⟨hr, k1⟩ e1 rs1 rv => ?_, xk⟩
  cases rv with
  | ref q =>
    rcases sto_cases (S := S1) (n := q) with e | ⟨l, e⟩ | ⟨l, e⟩ | ⟨c, f, e⟩
    · simp only [rcvW, e] at hr
    · simp only [rcvW, e] at hr
    · obtain ⟨kv, e0, _⟩ := rs1 q _ e
      refine ⟨q, rfl, .inl ⟨kv, .inl e0⟩, ?_⟩
      refine s_two (R := fun v w H2 => ∃ o, DGet H2 q v o ∧ Q (o.getD w) H2) (rl.mono (e1.stay rs)) rs1 k1 (xk.go e1) fun d e' S2 v w H2 k2 e2 rs2 r1 r2 => ?_
      have k2 : mthW .get2 (.ref q) [d, e'] S2 Kk := k2
      rcases sto_cases (S := S2) (n := q) with e3 | ⟨l, e3⟩ | ⟨l, e3⟩ | ⟨c, f, e3⟩
      · simp only [mthW, e3] at k2
      · simp only [mthW, e3] at k2
      · simp only [mthW, e3] at k2
        rcases dic_get rs2 e3 r1 k2.1 with ⟨g1, g⟩ | ⟨y', w', g1, g, r⟩
        · refine ⟨_, g, ?_⟩
          have k3 := k2.2
          rw [g1] at k3
          exact (aft.go (e1.trans e2)).self rs2 k3 r2
        · refine ⟨_, g, ?_⟩
          have k3 := k2.2
          rw [g1] at k3
          exact (aft.go (e1.trans e2)).self rs2 k3 r
      · simp only [mthW, e3] at k2
    · simp only [rcvW, e] at hr
  | _ => exact hr.elim
/-! ### tests -/
theorem s_tru {a : Ex} (h : PE X x (lE X C W a)) (he : ∀ whole, isTrue x X.env whole = (do let v ← whole; standAt x.pos; holding [v] (truthy v))) : PT X x (lT X C W a) :=
  (pt_truth h he).imp fun σ H Q ⟨ds, S, E, Kk, rl, rs, k, aft, xk⟩ =>
    ⟨ds, S, E, Kk, rl, rs, k, fun d S1 v H1 k1 e1 rs1 rv => let ⟨b, eb, q⟩ := aft d S1 H1 k1 e1 rs1; ⟨b, truth_ok rs1 rv eb, q⟩, xk⟩
theorem t_not {a : Ex} (ha : PT X x (lT X C W a)) : PT X (.UnaryOp .Not x pos) (lT X C W (.not a)) := by
  refine (pt_not ha).imp fun σ H Q ⟨ds, S, E, Kk, rl, rs, k, aft, xk⟩ => ?_
  refine ⟨ds, S, E, _, rl, rs, k, fun d S1 H1 ⟨b, eb, k1⟩ e1 rs1 => ⟨b, eb, ?_⟩, xk⟩
  obtain ⟨c, ec, q⟩ := aft _ S1 H1 k1 e1 rs1
  have ec' : some (!b) = some c := ec
  cases ec'
  exact q
theorem t_and {a b : Ex} {r : List Expr} (ha : PT X x (lT X C W a)) (hb : PW X (.BoolOp .And (y :: r) pos) (lT X C W b)) : PW X (.BoolOp .And (x :: y :: r) pos) (lT X C W (.and a b)) := by
  refine (pw_and ha hb).imp fun σ H Q ⟨ds, S, E, Kk, rl, rs, k, aft, xk⟩ => ?_
  refine ⟨ds, S, E, _, rl, rs, k, fun d S1 H1 ⟨c, ec, k1⟩ e1 rs1 => ⟨c, ec, ?_⟩, xk⟩
  cases c with
  | true =>
    rw [if_pos rfl] at k1 ⊢
    exact ⟨ds, S1, E, Kk, rl.mono (e1.stay rs), rs1, k1, fun d S2 H2 h1 h2 h3 => aft d S2 H2 h1 (e1.trans h2) h3, xk.go e1⟩
  | false =>
    rw [if_neg Bool.false_ne_true] at k1 ⊢
    obtain ⟨c, ec', q⟩ := aft _ S1 H1 k1 e1 rs1
    rw [ec] at ec'
    cases ec'
    exact q
theorem t_or {a b : Ex} {r : List Expr} (ha : PT X x (lT X C W a)) (hb : PW X (.BoolOp .Or (y :: r) pos) (lT X C W b)) : PW X (.BoolOp .Or (x :: y :: r) pos) (lT X C W (.or a b)) := by
  refine (pw_or ha hb).imp fun σ H Q ⟨ds, S, E, Kk, rl, rs, k, aft, xk⟩ => ?_
  refine ⟨ds, S, E, _, rl, rs, k, fun d S1 H1 ⟨c, ec, k1⟩ e1 rs1 => ⟨c, ec, ?_⟩, xk⟩
  cases c with
  | false =>
    rw [if_neg Bool.false_ne_true] at k1 ⊢
    exact ⟨ds, S1, E, Kk, rl.mono (e1.stay rs), rs1, k1, fun d S2 H2 h1 h2 h3 => aft d S2 H2 h1 (e1.trans h2) h3, xk.go e1⟩
  | true =>
    rw [if_pos rfl] at k1 ⊢
    obtain ⟨c, ec', q⟩ := aft _ S1 H1 k1 e1 rs1
    rw [ec] at ec'
    cases ec'
    exact q
theorem t_cmp {op : Cop} {a b : Ex} (hu : X.A.units + 66 < cLine) (ha : PE X x (lE X C W a)) (hb : PE X y (lE X C W b)) (hm : notSet y = true) : PT X (.Compare x [copOf op] [y] pos) (lT X C W (.cmp op a b)) := by
  refine (pt_cmpR (op_cmp hu op) ha hb (noMark hm _)).imp fun σ H Q ⟨ds, S, E, Kk, rl, rs, k, aft, xk⟩ => ?_
  exact s_two (R := fun v w H2 => rCmp X.K op v w H2 _) rl rs k xk fun d e S2 v w H2 k2 e2 rs2 r1 r2 => ⟨d, e, S2, _, r1, r2, rs2, k2, fun c kc => by
    obtain ⟨c', ec, q⟩ := aft _ S2 H2 kc e2 rs2
    cases ec
    exact ⟨c, rfl, q⟩⟩
theorem t_chn {o1 o2 : Cop} {a b c : Ex} (hu : X.A.units + 66 < cLine) (ha : PE X x (lE X C W a)) (hb : PE X y (lE X C W b)) (hc : PE X z (lE X C W c)) (hm : notSet z = true) :
    PT X (.Compare x [copOf o1, copOf o2] [y, z] pos) (lT X C W (.chn o1 o2 a b c)) := by
  refine (pt_chain (op_cmp hu o1) (op_cmp hu o2) ha hb hc (show behindInMarks (copOf o2) z = false from noMark hm _)).imp fun σ H Q ⟨ds, S, E, Kk, rl, rs, k, aft, xk⟩ => ?_
  refine s_two (R := fun v w H2 => rCmp X.K o1 v w H2 _) rl rs k xk fun d e S2 v w H2 k2 e2 rs2 r1 r2 => ⟨d, e, S2, _, r1, r2, rs2, k2, fun c kc => ⟨c, rfl, ?_⟩⟩
  cases c with
  | false =>
    rw [if_neg Bool.false_ne_true] at kc ⊢
    obtain ⟨c', ec, q⟩ := aft _ S2 H2 kc e2 rs2
    cases ec
    exact ⟨false, rfl, q⟩
  | true =>
    rw [if_pos rfl] at kc ⊢
    refine ⟨ds, S2, E, _, rl.mono (e2.stay rs), rs2, kc, fun f S3 u H3 k3 e3 rs3 r3 => ?_, xk.go e2⟩
    refine ⟨e, f, S3, _, r2.mono (e3.stay rs2), r3, rs3, k3, fun c' kc' => ?_⟩
    obtain ⟨c2, ec, q⟩ := aft _ S3 H3 kc' (e2.trans e3) rs3
    cases ec
    exact ⟨c', rfl, q⟩
end
end Ev
set_option Elab.async false
set_option linter.all false
set_option maxRecDepth 100000
set_option maxHeartbeats 1000000
/-! EvC3: iterators, targets, comprehensions. -/
namespace Ev
open PySem PySem.Spec PyProof.Rows L2

/-! ### sources -/
/-- a list (T: a tuple) whose items are l while chk holds -/
def LSrc (K : PySem.W.Frag) (S0 : Sto) (H0 : Hp) (l : List D) (chk : Sto → Prop) (a : Addr) : Prop := ∀ S H, RepS K S H → chk S → Ext S0 H0 S H → ∃ xs, SqL K H a xs ∧ RVs K H l xs
def TSrc (K : PySem.W.Frag) (S0 : Sto) (H0 : Hp) (l : List D) (chk : Sto → Prop) (a : Addr) : Prop := ∀ S H, RepS K S H → chk S → Ext S0 H0 S H → ∃ xs, SqT K H a xs ∧ RVs K H l xs
theorem itl_src {K : PySem.W.Frag} {S : Sto} {H : Hp} {d : D} {v : V} {Kc : List D → (Sto → Prop) → Prop} (rs : RepS K S H) (r : RV K H d v) (h : itlW d S Kc) : ∃ a l chk, v = .ref a ∧ Kc l chk ∧ chk S ∧ LSrc K S H l chk a := by
  cases r with
  | @fz l a xs hf rl => exact ⟨a, l, _, rfl, h, trivial, fun S' H' rs' _ e => ⟨xs, ((e.stay rs).fzL hf).sq, rl.mono (e.stay rs)⟩⟩
  | ref n =>
    rcases sto_cases (S := S) (n := n) with e | ⟨l, e⟩ | ⟨l, e⟩ | ⟨c, f, e⟩
    · simp only [itlW, e] at h
    · simp only [itlW, e] at h
      refine ⟨n, l, _, rfl, h, e, fun S' H' rs' hc _ => ?_⟩
      obtain ⟨xs, hx, rl⟩ := lst_of rs' hc
      exact ⟨xs, .of hx, rl⟩
    · simp only [itlW, e] at h
    · simp only [itlW, e] at h
  | _ => exact h.elim
theorem itv_src {K : PySem.W.Frag} {S : Sto} {H : Hp} {d : D} {v : V} {Kc : List D → (Sto → Prop) → Prop} (rs : RepS K S H) (r : RV K H d v) (h : itvW d S Kc) :
    ∃ a l chk, v = .ref a ∧ Kc l chk ∧ chk S ∧ (LSrc K S H l chk a ∨ TSrc K S H l chk a) := by
  cases r with
  | @tup l a xs hf rl => exact ⟨a, l, _, rfl, h, trivial, .inr fun S' H' rs' _ e => ⟨xs, (e.stay rs).sqT hf, rl.mono (e.stay rs)⟩⟩
  | @fz l a xs hf rl =>
    obtain ⟨a', l', chk, e, k, hc, s⟩ := itl_src (Kc := Kc) rs (.fz hf rl) h
    exact ⟨a', l', chk, e, k, hc, .inl s⟩
  | ref n =>
    obtain ⟨a', l', chk, e, k, hc, s⟩ := itl_src (Kc := Kc) rs (.ref n) (by
      rcases sto_cases (S := S) (n := n) with e | ⟨l, e⟩ | ⟨l, e⟩ | ⟨c, f, e⟩ <;> simpa only [itvW, itlW, e] using h)
    exact ⟨a', l', chk, e, k, hc, .inl s⟩
  | _ => exact h.elim
section
variable {K : PySem.W.Frag} {S0 : Sto} {H0 : Hp} {l : List D} {chk : Sto → Prop} {a : Addr}
theorem ItOk.list (s : LSrc K S0 H0 l chk a) : ItOk K l chk S0 H0 (Itl K a) := by
  refine ⟨fun S H rs hc e => ?_, fun i S H hi rs hc e => ?_, fun i S H x H' hi rs hc e y => ?_⟩
  · obtain ⟨xs, hq, rl⟩ := s S H rs hc e
    exact ⟨xs, hq, by rw [rl.len]; exact Nat.le_refl _⟩
  · obtain ⟨xs, hq, rl⟩ := s S H rs hc e
    obtain ⟨w, e2, _⟩ := rl.get (List.getElem?_eq_getElem hi)
    exact ⟨xs, w, hq, e2⟩
  · obtain ⟨xs, hq, rl⟩ := s S H rs hc e
    obtain ⟨e1, e2⟩ := y
    subst e1
    obtain ⟨w, e3, r⟩ := rl.get (List.getElem?_eq_getElem hi)
    have e4 := e2 xs hq
    rw [e3] at e4
    cases e4
    exact ⟨_, List.getElem?_eq_getElem hi, r, Ext.refl, rs⟩
theorem ItOk.tuple (s : TSrc K S0 H0 l chk a) : ItOk K l chk S0 H0 (Itt K a) := by
  refine ⟨fun S H rs hc e => ?_, fun i S H hi rs hc e => ?_, fun i S H x H' hi rs hc e y => ?_⟩
  · obtain ⟨xs, hq, rl⟩ := s S H rs hc e
    exact ⟨xs, hq, by rw [rl.len]; exact Nat.le_refl _⟩
  · obtain ⟨xs, hq, rl⟩ := s S H rs hc e
    obtain ⟨w, e2, _⟩ := rl.get (List.getElem?_eq_getElem hi)
    exact ⟨xs, w, hq, e2⟩
  · obtain ⟨xs, hq, rl⟩ := s S H rs hc e
    obtain ⟨e1, e2⟩ := y
    subst e1
    obtain ⟨w, e3, r⟩ := rl.get (List.getElem?_eq_getElem hi)
    have e4 := e2 xs hq
    rw [e3] at e4
    cases e4
    exact ⟨_, List.getElem?_eq_getElem hi, r, Ext.refl, rs⟩
theorem rev_get {l : List D} {i : Nat} (hi : i < l.length) : l.reverse[i]? = l[l.length - 1 - i]? := List.getElem?_reverse hi
theorem ItOk.rev (s : LSrc K S0 H0 l chk a) : ItOk K l.reverse chk S0 H0 (Itv K a l.length) := by
  refine ⟨fun S H rs hc e => ?_, fun i S H hi rs hc e => ?_, fun i S H x H' hi rs hc e y => ?_⟩
  · rw [List.length_reverse]; exact Nat.le_refl _
  · obtain ⟨xs, hq, rl⟩ := s S H rs hc e
    rw [List.length_reverse] at hi
    obtain ⟨w, e2, _⟩ := rl.get (List.getElem?_eq_getElem (show l.length - 1 - i < l.length by omega))
    exact ⟨hi, xs, w, hq, e2⟩
  · obtain ⟨xs, hq, rl⟩ := s S H rs hc e
    rw [List.length_reverse] at hi
    obtain ⟨e1, e2⟩ := y
    subst e1
    obtain ⟨w, e3, r⟩ := rl.get (List.getElem?_eq_getElem (show l.length - 1 - i < l.length by omega))
    have e4 := e2 xs hq
    rw [e3] at e4
    cases e4
    exact ⟨_, by rw [rev_get hi]; exact List.getElem?_eq_getElem (show l.length - 1 - i < l.length by omega), r, Ext.refl, rs⟩
theorem ItOk.revT (s : TSrc K S0 H0 l chk a) : ItOk K l.reverse chk S0 H0 (RT.ItvT K a l.length) := by
  refine ⟨fun S H rs hc e => ?_, fun i S H hi rs hc e => ?_, fun i S H x H' hi rs hc e y => ?_⟩
  · rw [List.length_reverse]; exact Nat.le_refl _
  · obtain ⟨xs, hq, rl⟩ := s S H rs hc e
    rw [List.length_reverse] at hi
    obtain ⟨w, e2, _⟩ := rl.get (List.getElem?_eq_getElem (show l.length - 1 - i < l.length by omega))
    exact ⟨hi, xs, w, hq, e2⟩
  · obtain ⟨xs, hq, rl⟩ := s S H rs hc e
    rw [List.length_reverse] at hi
    obtain ⟨e1, e2⟩ := y
    subst e1
    obtain ⟨w, e3, r⟩ := rl.get (List.getElem?_eq_getElem (show l.length - 1 - i < l.length by omega))
    have e4 := e2 xs hq
    rw [e3] at e4
    cases e4
    exact ⟨_, by rw [rev_get hi]; exact List.getElem?_eq_getElem (show l.length - 1 - i < l.length by omega), r, Ext.refl, rs⟩
theorem ItOk.rng {f : Nat → Int} {n : Nat} {J : L2.It} (hgo : ∀ i H, i < n → J.go i H) (hst : ∀ H, J.stop n H) (hy : ∀ i H x H', J.yld i H x H' → H' = H ∧ x = .int (f i)) : ItOk K ((List.range n).map fun i => .int (f i)) (fun _ => True) S0 H0 J := by
  refine ⟨fun S H rs hc e => ?_, fun i S H hi rs hc e => ?_, fun i S H x H' hi rs hc e y => ?_⟩
  · rw [List.length_map, List.length_range]; exact hst H
  · rw [List.length_map, List.length_range] at hi; exact hgo i H hi
  · rw [List.length_map, List.length_range] at hi
    obtain ⟨e1, e2⟩ := hy i H x H' y
    subst e1 e2
    exact ⟨.int (f i), by rw [List.getElem?_map, List.getElem?_range hi]; rfl, .int _, Ext.refl, rs⟩
/-- a pair just made -/
theorem pair_new {S : Sto} {H : Hp} (rs : RepS K S H) {T : Addr} (hT : H T = none) {d e : D} {x y : V} (r1 : RV K H d x) (r2 : RV K H e y) :
    RV K (upd H T (.tup [x, y])) (.tup [d, e]) (.ref T) ∧ Ext S H S (upd H T (.tup [x, y])) ∧ RepS K S (upd H T (.tup [x, y])) :=
  ⟨.tup (.inl (.inl upd_same)) (.cons (r1.mono (stay_new hT)) (.cons (r2.mono (stay_new hT)) .nil)), Ext.free rs hT, rs.free hT⟩
theorem ItOk.enum (s : LSrc K S0 H0 l chk a) : ItOk K (l.zipIdx.map fun p => .tup [.int p.2, p.1]) chk S0 H0 (Ite K a) := by
  have hlen : (l.zipIdx.map fun p => D.tup [.int p.2, p.1]).length = l.length := by simp
  refine ⟨fun S H rs hc e => ?_, fun i S H hi rs hc e => ?_, fun i S H x H' hi rs hc e y => ?_⟩
  · obtain ⟨xs, hq, rl⟩ := s S H rs hc e
    exact ⟨xs, hq, by rw [hlen, rl.len]; exact Nat.le_refl _⟩
  · rw [hlen] at hi
    obtain ⟨xs, hq, rl⟩ := s S H rs hc e
    obtain ⟨w, e2, _⟩ := rl.get (List.getElem?_eq_getElem hi)
    exact ⟨xs, w, hq, e2⟩
  · rw [hlen] at hi
    obtain ⟨xs, hq, rl⟩ := s S H rs hc e
    obtain ⟨T, w, e1, hT, e2, e3⟩ := y
    subst e1 e2
    obtain ⟨w', e4, r⟩ := rl.get (List.getElem?_eq_getElem hi)
    have e5 := e3 xs hq
    rw [e4] at e5
    cases e5
    obtain ⟨h1, h2, h3⟩ := pair_new rs hT (.int (i : Int)) r
    exact ⟨_, by rw [List.getElem?_map, List.getElem?_zipIdx, List.getElem?_eq_getElem hi]; simp, h1, h2, h3⟩
theorem zip2_len (l r : List D) : (zip2 l r).length = min l.length r.length := by unfold zip2; simp
theorem zip2_get {l r : List D} {i : Nat} (h1 : i < l.length) (h2 : i < r.length) : (zip2 l r)[i]? = some (.tup [l[i], r[i]]) := by
  unfold zip2
  rw [List.getElem?_map, List.getElem?_eq_getElem (by rw [List.length_zip]; omega)]
  simp
theorem ItOk.zip {r : List D} {c2 : Sto → Prop} {b : Addr} (s : LSrc K S0 H0 l chk a) (t : LSrc K S0 H0 r c2 b) : ItOk K (zip2 l r) (fun S' => chk S' ∧ c2 S') S0 H0 (Itz K a b) := by
  refine ⟨fun S H rs hc e => ?_, fun i S H hi rs hc e => ?_, fun i S H x H' hi rs hc e y => ?_⟩
  · obtain ⟨xs, hq, rl⟩ := s S H rs hc.1 e
    obtain ⟨ys, hq2, rl2⟩ := t S H rs hc.2 e
    refine ⟨xs, ys, hq, hq2, ?_⟩
    rw [zip2_len, ← rl.len, ← rl2.len]
    omega
  · rw [zip2_len] at hi
    obtain ⟨xs, hq, rl⟩ := s S H rs hc.1 e
    obtain ⟨ys, hq2, rl2⟩ := t S H rs hc.2 e
    obtain ⟨w, e2, _⟩ := rl.get (List.getElem?_eq_getElem (show i < l.length by omega))
    obtain ⟨w2, e3, _⟩ := rl2.get (List.getElem?_eq_getElem (show i < r.length by omega))
    exact ⟨xs, ys, w, w2, hq, hq2, e2, e3⟩
  · rw [zip2_len] at hi
    obtain ⟨xs, hq, rl⟩ := s S H rs hc.1 e
    obtain ⟨ys, hq2, rl2⟩ := t S H rs hc.2 e
    obtain ⟨T, w, w2, e1, hT, e2, e3, e4⟩ := y
    subst e1 e2
    obtain ⟨w', g1, r1⟩ := rl.get (List.getElem?_eq_getElem (show i < l.length by omega))
    obtain ⟨w2', g2, r2⟩ := rl2.get (List.getElem?_eq_getElem (show i < r.length by omega))
    have e5 := e3 xs hq
    have e6 := e4 ys hq2
    rw [g1] at e5
    rw [g2] at e6
    cases e5
    cases e6
    obtain ⟨h1, h2, h3⟩ := pair_new rs hT r1 r2
    exact ⟨_, zip2_get (by omega) (by omega), h1, h2, h3⟩
theorem ItOk.zipT {r : List D} {c2 : Sto → Prop} {b : Addr} (s : TSrc K S0 H0 l chk a) (t : TSrc K S0 H0 r c2 b) : ItOk K (zip2 l r) (fun S' => chk S' ∧ c2 S') S0 H0 (RZ.ItzT K a b) := by
  refine ⟨fun S H rs hc e => ?_, fun i S H hi rs hc e => ?_, fun i S H x H' hi rs hc e y => ?_⟩
  · obtain ⟨xs, hq, rl⟩ := s S H rs hc.1 e
    obtain ⟨ys, hq2, rl2⟩ := t S H rs hc.2 e
    refine ⟨xs, ys, hq, hq2, ?_⟩
    rw [zip2_len, ← rl.len, ← rl2.len]
    omega
  · rw [zip2_len] at hi
    obtain ⟨xs, hq, rl⟩ := s S H rs hc.1 e
    obtain ⟨ys, hq2, rl2⟩ := t S H rs hc.2 e
    obtain ⟨w, e2, _⟩ := rl.get (List.getElem?_eq_getElem (show i < l.length by omega))
    obtain ⟨w2, e3, _⟩ := rl2.get (List.getElem?_eq_getElem (show i < r.length by omega))
    exact ⟨xs, ys, w, w2, hq, hq2, e2, e3⟩
  · rw [zip2_len] at hi
    obtain ⟨xs, hq, rl⟩ := s S H rs hc.1 e
    obtain ⟨ys, hq2, rl2⟩ := t S H rs hc.2 e
    obtain ⟨T, w, w2, e1, hT, e2, e3, e4⟩ := y
    subst e1 e2
    obtain ⟨w', g1, r1⟩ := rl.get (List.getElem?_eq_getElem (show i < l.length by omega))
    obtain ⟨w2', g2, r2⟩ := rl2.get (List.getElem?_eq_getElem (show i < r.length by omega))
    have e5 := e3 xs hq
    have e6 := e4 ys hq2
    rw [g1] at e5
    rw [g2] at e6
    cases e5
    cases e6
    obtain ⟨h1, h2, h3⟩ := pair_new rs hT r1 r2
    exact ⟨_, zip2_get (by omega) (by omega), h1, h2, h3⟩
theorem ItOk.weak {J : L2.It} {c : Sto → Prop} (o : ItOk K l c S0 H0 J) (h : ∀ S, chk S → c S) : ItOk K l chk S0 H0 J :=
  ⟨fun S H rs hc e => o.stop S H rs (h S hc) e, fun i S H hi rs hc e => o.go i S H hi rs (h S hc) e, fun i S H x H' hi rs hc e y => o.yld i S H x H' hi rs (h S hc) e y⟩
end
/-! ### iterators -/
section
variable {X : Cx} {C : CallT} {W : WX} {p : Prog} {n : Nat} {x y z tg : Expr} {pos : Pos}
/-- a list or a tuple -/
def iSeq (K : PySem.W.Frag) (te : TE) : TI := fun σ H R => te σ H fun v H1 => ∃ a, v = .ref a ∧ (((∃ xs, SqL K H1 a xs) ∧ R (Itl K a) H1) ∨ ((∃ xs, SqT K H1 a xs) ∧ R (Itt K a) H1))
theorem pi_seq {te : TE} (he : PE X x te) : PI X tg x (iSeq X.K te) := by
  refine ⟨fun pins s σ H R I h => thn (he.run pins s σ H _ I h) ?_⟩
  rintro v t ⟨w, G, J, rel, a, rfl, alt⟩
  cases rel
  have new : ∀ b, b ∈ [t.heap.objs.size] → FpOk X pins G b := fun b hb => by
    cases List.mem_singleton.1 hb
    exact J.fpOk (Nat.le_refl _) (J.hok.fresh (Nat.le_refl _))
  rcases alt with ⟨⟨xs, hq⟩, q⟩ | ⟨⟨xs, hq⟩, q⟩
  · obtain ⟨its, rv, pl, hz⟩ := J.list hq
    exact wpAny_pyIter_list pl.isList ⟨t.heap.objs.size, [t.heap.objs.size], _, _, G, rfl, J.kept (t' := t.toks) fun b o e => Heap.get?_push_of_some _ e,
      turn_list a _, ⟨_, Heap.get?_push_size _ rfl, rfl, rfl⟩, new, q⟩
  · obtain ⟨its, rv, pl, hz⟩ := J.tuple hq
    exact wpAny_pyIter_tuple (show t.heap.IsTuple a its.toArray from pl) ⟨t.heap.objs.size, [t.heap.objs.size], _, _, G, rfl, J.kept (t' := t.toks) fun b o e => Heap.get?_push_of_some _ e,
      turn_tuple a _, ⟨_, Heap.get?_push_size _ rfl, rfl, rfl⟩, new, q⟩
theorem i_val {e : Ex} (he : PE X x (lE X C W e)) : PI X tg x (lI X C W (.val e)) := by
  refine (pi_seq he).imp fun σ H R ⟨ds, S, E, Kk, rl, rs, k, aft, xk⟩ => ?_
  refine ⟨ds, S, E, _, rl, rs, k, fun d S1 v H1 k1 e1 rs1 rv => ?_, xk⟩
  obtain ⟨a, l, chk, ev, k2, hc, src⟩ := itv_src rs1 rv k1
  refine ⟨a, ev, ?_⟩
  rcases src with s | s
  · obtain ⟨xs, hq, _⟩ := s S1 H1 rs1 hc Ext.refl
    exact .inl ⟨⟨xs, hq⟩, aft _ _ S1 _ H1 k2 e1 rs1 (ItOk.list s)⟩
  · obtain ⟨xs, hq, _⟩ := s S1 H1 rs1 hc Ext.refl
    exact .inr ⟨⟨xs, hq⟩, aft _ _ S1 _ H1 k2 e1 rs1 (ItOk.tuple s)⟩
theorem i_rev {e : Ex} {q : Pos} (ok : Ok p n X) (hg : gloB X.env.scope (Str.ofString "reversed") = true) (he : PE X x (lE X C W e)) (hs : isStar x = false) : PI X tg (.Call (.Name (Str.ofString "reversed") q) [x] [] pos) (lI X C W (.rev e)) := by
  refine (RT.pi_revA (gl_of hg) (ok.bi _ (by decide +kernel)) he (star_cons hs)).imp fun σ H R ⟨ds, S, E, Kk, rl, rs, k, aft, xk⟩ => ?_
  refine ⟨ds, S, E, _, rl, rs, k, fun d S1 v H1 k1 e1 rs1 rv => ?_, xk⟩
  obtain ⟨a, l, chk, ev, k2, hc, src⟩ := itv_src rs1 rv k1
  rcases src with s | s
  · obtain ⟨xs, hq, rl⟩ := s S1 H1 rs1 hc Ext.refl
    exact ⟨a, xs, ev, .inl ⟨hq, by rw [← rl.len]; exact aft _ _ S1 _ H1 k2 e1 rs1 (ItOk.rev s)⟩⟩
  · obtain ⟨xs, hq, rl⟩ := s S1 H1 rs1 hc Ext.refl
    exact ⟨a, xs, ev, .inr ⟨hq, by rw [← rl.len]; exact aft _ _ S1 _ H1 k2 e1 rs1 (ItOk.revT s)⟩⟩
/-- two in a row, as arguments -/
theorem s_twoA {a b : Ex} {σ : L2.St} {H : Hp} {R : List V → Hp → Prop} {ds : Loc} {S : Sto} {E : XK} {K2 : D → D → Sto → Prop} (rl : RL X.K H ds σ) (rs : RepS X.K S H)
    (h : exW C a ds E S fun d S1 => exW C b ds E S1 fun e S2 => K2 d e S2) (xk : XKs X W σ S H E)
    (go : ∀ d e S2 v w H2, K2 d e S2 → Ext S H S2 H2 → RepS X.K S2 H2 → RV X.K H2 d v → RV X.K H2 e w → R [v, w] H2) : lEs X C W (.cons a (.cons b .nil)) σ H R := by
  refine ⟨ds, S, E, fun l S2 => (match l with | [d, e] => K2 d e S2 | _ => False), rl, rs, h, fun l S2 vs H2 k2 e2 rs2 rvs => ?_, xk⟩
  cases rvs with
  | nil => exact k2.elim
  | cons r1 r =>
    cases r with
    | nil => exact k2.elim
    | cons r2 r =>
      cases r with
      | nil => exact go _ _ S2 _ _ H2 k2 e2 rs2 r1 r2
      | cons _ _ => exact k2.elim
theorem s_oneA {a : Ex} {σ : L2.St} {H : Hp} {R : List V → Hp → Prop} {ds : Loc} {S : Sto} {E : XK} {K2 : D → Sto → Prop} (rl : RL X.K H ds σ) (rs : RepS X.K S H)
    (h : exW C a ds E S fun d S1 => K2 d S1) (xk : XKs X W σ S H E)
    (go : ∀ d S2 v H2, K2 d S2 → Ext S H S2 H2 → RepS X.K S2 H2 → RV X.K H2 d v → R [v] H2) : lEs X C W (.cons a .nil) σ H R := by
  refine ⟨ds, S, E, fun l S2 => (match l with | [d] => K2 d S2 | _ => False), rl, rs, h, fun l S2 vs H2 k2 e2 rs2 rvs => ?_, xk⟩
  cases rvs with
  | nil => exact k2.elim
  | cons r1 r =>
    cases r with
    | nil => exact go _ S2 _ H2 k2 e2 rs2 r1
    | cons _ _ => exact k2.elim
theorem i_rg1 {a : Ex} {q : Pos} (ok : Ok p n X) (hg : gloB X.env.scope (Str.ofString "range") = true) (ha : PE X x (lE X C W a)) (h1 : isStar x = false) : PI X tg (.Call (.Name (Str.ofString "range") q) [x] [] pos) (lI X C W (.rg1 a)) := by
  refine (pi_range1 (gl_of hg) (ok.bi _ (by decide +kernel)) (s_cons ha s_nil h1) (star_cons h1)).imp fun σ H R ⟨ds, S, E, Kk, rl, rs, k, aft, xk⟩ => ?_
  refine s_oneA rl rs k xk fun d S2 v H2 ⟨i, ei, hi, k2⟩ e2 rs2 rv => ?_
  subst ei
  cases rv
  refine ⟨i, rfl, by have := hi.1; omega, hi.2, aft _ _ S2 _ H2 k2 e2 rs2 ?_⟩
  exact ItOk.rng (f := fun k => (k : Int)) (fun _ _ h => h) (fun _ => Nat.le_refl _) fun i H x H' y => ⟨y.1, by rw [y.2]; congr 1; omega⟩
theorem i_rg2 {a b : Ex} {q : Pos} (ok : Ok p n X) (hg : gloB X.env.scope (Str.ofString "range") = true) (ha : PE X x (lE X C W a)) (hb : PE X y (lE X C W b)) (h1 : isStar x = false) (h2 : isStar y = false) :
    PI X tg (.Call (.Name (Str.ofString "range") q) [x, y] [] pos) (lI X C W (.rg2 a b)) := by
  have pl : Pl X [x, y] := .cons h1 (.cons h2 .nil)
  refine (pi_range2 (gl_of hg) (ok.bi _ (by decide +kernel)) (s_cons ha (s_cons hb s_nil h2) h1) pl.all (Pl.cons h2 .nil).all).imp fun σ H R ⟨ds, S, E, Kk, rl, rs, k, aft, xk⟩ => ?_
  refine s_twoA rl rs k xk fun d e S2 v w H2 ⟨i, j, ei, ej, hi, hj, k2⟩ e2 rs2 r1 r2 => ?_
  subst ei ej
  cases r1
  cases r2
  refine ⟨i, j, rfl, ⟨by have := hi.1; omega, hi.2, by have := hj.1; omega, hj.2⟩, aft _ _ S2 _ H2 k2 e2 rs2 ?_⟩
  exact ItOk.rng (f := fun k => i + (k : Int)) (fun _ _ h => h) (fun _ => Nat.le_refl _) fun i H x H' y => y
theorem i_rgd {a b : Ex} {q p1 p2 : Pos} {j} (ok : Ok p n X) (hg : gloB X.env.scope (Str.ofString "range") = true) (ha : PE X x (lE X C W a)) (hb : PE X y (lE X C W b)) (h1 : isStar x = false) (h2 : isStar y = false) :
    PI X tg (.Call (.Name (Str.ofString "range") q) [x, y, .UnaryOp .USub (.Constant (.int 1) j p1) p2] [] pos) (lI X C W (.rgd a b)) := by
  have hm : PE X (.UnaryOp .USub (.Constant (.int 1) j p1) p2) (tC (.int (-1))) := (pe_un un_neg pe_int).imp fun σ H Q h => ⟨1, rfl, h⟩
  have p1' : Pl X [.UnaryOp .USub (.Constant (.int 1) j p1) p2] := .cons rfl .nil
  have p2' : Pl X [y, .UnaryOp .USub (.Constant (.int 1) j p1) p2] := .cons h2 p1'
  refine (pi_range3 (gl_of hg) (ok.bi _ (by decide +kernel)) (pa_cons ha (pa_cons hb (pa_cons hm pa_nil rfl) (star_cons h2)) (star_cons h1)) (star_cons h1) (p2'.any pos)).imp fun σ H R ⟨ds, S, E, Kk, rl, rs, k, aft, xk⟩ => ?_
  refine s_two (R := fun v w H2 => _) rl rs k xk fun d e S2 v w H2 ⟨i, j, ei, ej, hi, hj, k2⟩ e2 rs2 r1 r2 => ?_
  subst ei ej
  cases r1
  cases r2
  refine ⟨i, j, -1, _, rfl, RgC.neg (by have := hi.1; omega) hi.2 (by have := hj.1; omega) hj.2, aft _ _ S2 _ H2 k2 e2 rs2 ?_⟩
  exact ItOk.rng (f := fun k => i - (k : Int)) (fun _ _ h => h) (fun _ => Nat.le_refl _) fun i H x H' y => ⟨y.1, by rw [y.2]; congr 1; omega⟩
theorem i_enum {a : Ex} {q tp : Pos} {elts : List Expr} {kk : Nat} (ok : Ok p n X) (hg : gloB X.env.scope (Str.ofString "enumerate") = true) (ha : PE X x (lE X C W a)) (h1 : isStar x = false) :
    PI X (.Tuple elts kk tp) (.Call (.Name (Str.ofString "enumerate") q) [x] [] pos) (lI X C W (.enum a)) := by
  refine (pi_enum (gl_of hg) (ok.bi _ (by decide +kernel)) (s_cons ha s_nil h1) (star_cons h1)).imp fun σ H R ⟨ds, S, E, Kk, rl, rs, k, aft, xk⟩ => ?_
  refine s_oneA rl rs k xk fun d S2 v H2 k2 e2 rs2 rv => ?_
  obtain ⟨a, l, chk, ev, k3, hc, s⟩ := itl_src rs2 rv k2
  obtain ⟨xs, hq, _⟩ := s S2 H2 rs2 hc Ext.refl
  subst ev
  exact ⟨a, xs, rfl, hq, aft _ _ S2 _ H2 k3 e2 rs2 (ItOk.enum s)⟩
theorem i_zip {a b : Ex} {q tp : Pos} {elts : List Expr} {kk : Nat} (ok : Ok p n X) (hg : gloB X.env.scope (Str.ofString "zip") = true) (ha : PE X x (lE X C W a)) (hb : PE X y (lE X C W b)) (h1 : isStar x = false) (h2 : isStar y = false) :
    PI X (.Tuple elts kk tp) (.Call (.Name (Str.ofString "zip") q) [x, y] [] pos) (lI X C W (.zip a b)) := by
  have pl : Pl X [x, y] := .cons h1 (.cons h2 .nil)
  refine (RZ.pi_zipA (gl_of hg) (ok.bi _ (by decide +kernel)) (s_cons ha (s_cons hb s_nil h2) h1) (star_cons h1) ((Pl.cons h2 .nil).any pos)).imp fun σ H R ⟨ds, S, E, Kk, rl, rs, k, aft, xk⟩ => ?_
  refine s_twoA rl rs k xk fun d e S2 v w H2 k2 e2 rs2 r1 r2 => ?_
  have lst : itlW d S2 (fun l c1 => itlW e S2 fun r c2 => Kk (zip2 l r) (fun S' => c1 S' ∧ c2 S') S2) → ∃ (a b : Addr) (xs ys : List V), [v, w] = [V.ref a, V.ref b] ∧ ((SqL X.K H2 a xs ∧ SqL X.K H2 b ys ∧ R (Itz X.K a b) H2) ∨ (SqT X.K H2 a xs ∧ SqT X.K H2 b ys ∧ R (RZ.ItzT X.K a b) H2)) := fun h => by
    obtain ⟨a, l, c1, ev, k3, hc, s⟩ := itl_src rs2 r1 h
    obtain ⟨b, r, c2, ew, k4, hc2, t⟩ := itl_src rs2 r2 k3
    obtain ⟨xs, hq, _⟩ := s S2 H2 rs2 hc Ext.refl
    obtain ⟨ys, hq2, _⟩ := t S2 H2 rs2 hc2 Ext.refl
    subst ev ew
    exact ⟨a, b, xs, ys, rfl, .inl ⟨hq, hq2, aft _ _ S2 _ H2 k4 e2 rs2 (ItOk.zip s t)⟩⟩
  cases d with
  | tup l =>
    cases e with
    | tup r =>
      cases r1 with
      | @tup _ a xs g1 q1 =>
        cases r2 with
        | @tup _ b ys g2 q2 =>
          have s : TSrc X.K S2 H2 l (fun _ => True) a := fun S' H' rs' _ e => ⟨xs, (e.stay rs2).sqT g1, q1.mono (e.stay rs2)⟩
          have t : TSrc X.K S2 H2 r (fun _ => True) b := fun S' H' rs' _ e => ⟨ys, (e.stay rs2).sqT g2, q2.mono (e.stay rs2)⟩
          exact ⟨a, b, xs, ys, rfl, .inr ⟨g1, g2, aft _ _ S2 _ H2 k2 e2 rs2 ((ItOk.zipT s t).weak fun _ _ => ⟨trivial, trivial⟩)⟩⟩
    | _ => exact lst k2
  | _ => exact lst k2

/-! ### targets -/
theorem wipe_mem {i : Nat} {v : Option V} {σ : L2.St} : ∀ {vs : List Nat}, i ∈ vs → L2.wipe (σ.set i v) vs = L2.wipe σ vs
  | [], h => by cases h
  | j :: vs, h => by
    simp only [L2.wipe]
    by_cases e : i = j
    · subst e
      by_cases h2 : i ∈ vs
      · rw [wipe_mem h2]
      · have out : ∀ (us : List Nat) (τ : L2.St), i ∉ us → L2.wipe (τ.set i v) us = (L2.wipe τ us).set i v := fun us => by
          induction us with
          | nil => intros; rfl
          | cons u us ih =>
            intro τ hn
            simp only [L2.wipe]
            rw [ih τ (fun z => hn (List.mem_cons_of_mem _ z)), List.set_comm]
            rintro rfl
            exact hn (List.mem_cons_self)
        rw [out vs σ h2, List.set_set]
    · rw [wipe_mem (vs := vs) (by cases h with | head => exact absurd rfl e | tail _ h => exact h)]
def lG (K : PySem.W.Frag) (t : Tg) : TG := fun v σ H Q => ∃ ds d Kk, RL K H ds σ ∧ RV K H d v ∧ tgW t d ds Kk ∧ ∀ ds' σ', Kk ds' → RL K H ds' σ' → (∀ vs : List Nat, (∀ i ∈ tgV t, i ∈ vs) → L2.wipe σ' vs = L2.wipe σ vs) → Q σ' H
def lGs (K : PySem.W.Frag) (t : Tgs) : TGs := fun v σ H Q => ∃ ds d Kk, RL K H ds σ ∧ RVs K H d v ∧ tgsW t d ds Kk ∧ ∀ ds' σ', Kk ds' → RL K H ds' σ' → (∀ vs : List Nat, (∀ i ∈ tgsV t, i ∈ vs) → L2.wipe σ' vs = L2.wipe σ vs) → Q σ' H
def LocOk (X : Cx) (sr : Scope) : Prop := ∀ x, locB sr x = true → L2.Loc X.env.scope x ∧ (X.fn x = true ∨ X.env.scope.names.lookup x = some .local)
theorem _root_.L2.PG.imp {t : TG} {t' : TG} (h : PG X x t) (hi : ∀ v σ H Q, t' v σ H Q → t v σ H Q) : PG X x t' := ⟨fun pins s σ H v u Q I r w => h.run pins s σ H v u Q I r (hi v σ H Q w)⟩
theorem _root_.L2.PGs.imp {l : List Expr} {t : TGs} {t' : TGs} (h : PGs X l t) (hi : ∀ v σ H Q, t' v σ H Q → t v σ H Q) : PGs X l t' := ⟨fun pins s σ H v u Q I r w => h.run pins s σ H v u Q I r (hi v σ H Q w)⟩
theorem g_nm {i : Nat} {nm : Str} {sr : Scope} (ok : Ok p n X) (lo : LocOk X sr) (hN : X.N[i]? = some nm) (hl : locB sr nm = true) : PG X (.Name nm pos) (lG X.K (.nm i)) := by
  refine (pg_name ok.nd hN (lo nm hl).1 (lo nm hl).2).imp fun v σ H Q ⟨ds, d, Kk, rl, rv, k, go⟩ => ?_
  exact go _ _ k (rl.set i rv) fun vs hv => wipe_mem (hv i (by simp [tgV]))
def tgsN : Tgs → Nat
  | .nil => 0
  | .cons _ ts => tgsN ts + 1
theorem tgsW_len : ∀ {ts : Tgs} {l : List D} {σ : Loc} {Kk : Loc → Prop}, (∀ t d σ K, tgW t d σ K → ∃ σ', K σ') → tgsW ts l σ Kk → l.length = tgsN ts
  | .nil, [], _, _, _, _ => rfl
  | .cons t ts, d :: r, σ, Kk, ex, h => by
    obtain ⟨σ', h'⟩ := ex _ _ _ _ (show tgW t d σ fun σ' => tgsW ts r σ' Kk from h)
    simp only [List.length_cons, tgsN]
    rw [tgsW_len ex h']
  | .nil, _ :: _, _, _, _, h => by simp only [tgsW] at h
  | .cons _ _, [], _, _, _, h => by simp only [tgsW] at h
mutual
theorem tgW_ex : ∀ (t : Tg) (d : D) (σ : Loc) (K : Loc → Prop), tgW t d σ K → ∃ σ', K σ'
  | .nm i, d, σ, K, h => ⟨_, h⟩
  | .tp ts, d, σ, K, h => by
    cases d with
    | tup l => exact tgsW_ex ts l σ K h
    | _ => exact h.elim
theorem tgsW_ex : ∀ (t : Tgs) (d : List D) (σ : Loc) (K : Loc → Prop), tgsW t d σ K → ∃ σ', K σ'
  | .nil, [], σ, K, h => ⟨σ, h⟩
  | .cons t ts, d :: r, σ, K, h => by
    obtain ⟨σ', h'⟩ := tgW_ex t d σ _ (show tgW t d σ fun σ' => tgsW ts r σ' K from h)
    exact tgsW_ex ts r σ' K h'
  | .nil, _ :: _, _, _, h => by simp only [tgsW] at h
  | .cons _ _, [], _, _, h => by simp only [tgsW] at h
end
theorem mTs_len {N : List Str} {sr : Scope} : ∀ {ts : Tgs} {l : List Expr}, mTs N sr ts l = true → l.length = tgsN ts
  | .nil, [], _ => rfl
  | .cons t ts, x :: l, h => by
    simp only [mTs, Bool.and_eq_true] at h
    simp only [List.length_cons, tgsN]
    rw [mTs_len h.2]
  | .nil, _ :: _, h => by simp [mTs] at h
  | .cons _ _, [], h => by simp [mTs] at h
theorem mT_as {N : List Str} {sr : Scope} {t : Tg} {x : Expr} (h : mT N sr t x = true) (l : List Expr) (env : Env) : assignEach (x :: l) env = (false, assign x env) :: assignEach l env := by
  cases x with
  | Starred v p => cases t <;> simp [mT] at h
  | _ => rfl
theorem mTs_as {N : List Str} {sr : Scope} {env : Env} : ∀ {ts : Tgs} {l : List Expr}, mTs N sr ts l = true → assignEach l env = l.map fun e => (false, assign e env)
  | .nil, [], _ => rfl
  | .cons t ts, x :: l, h => by
    simp only [mTs, Bool.and_eq_true] at h
    rw [mT_as h.1, mTs_as h.2]
    rfl
  | .nil, _ :: _, h => by simp [mTs] at h
  | .cons _ _, [], h => by simp [mTs] at h
mutual
theorem g_ok {sr : Scope} (ok : Ok p n X) (lo : LocOk X sr) : ∀ (t : Tg) (x : Expr), mT X.N sr t x = true → PG X x (lG X.K t)
  | .nm i, x, h => by
    cases x with
    | Name nm pos =>
      simp only [mT, Bool.and_eq_true, decide_eq_true_eq] at h
      exact g_nm ok lo h.1 h.2
    | _ => simp [mT] at h
  | .tp ts, x, h => by
    cases x with
    | Tuple l k pos =>
      simp only [mT] at h
      have hs := gs_ok ok lo ts l h
      refine (pg_tup (n := l.length) ok.calm hs (by rw [mTs_as h, List.length_map]) (by rw [mTs_as h]; simp [List.findIdx?_eq_none_iff])).imp fun v σ H Q ⟨ds, d, Kk, rl, rv, k, go⟩ => ?_
      cases rv with
      | @tup l' a xs hx rl' =>
        refine ⟨a, xs, rfl, hx, ?_, ds, l', Kk, rl, rl', k, fun ds' σ' h1 h2 h3 => go ds' σ' h1 h2 h3⟩
        rw [← rl'.len, mTs_len h]
        exact tgsW_len tgW_ex k
      | _ => exact k.elim
    | _ => simp [mT] at h
theorem gs_ok {sr : Scope} (ok : Ok p n X) (lo : LocOk X sr) : ∀ (t : Tgs) (x : List Expr), mTs X.N sr t x = true → PGs X x (lGs X.K t)
  | .nil, x, h => by
    cases x with
    | nil =>
      refine pgs_nil.imp fun v σ H Q ⟨ds, d, Kk, rl, rv, k, go⟩ => ?_
      cases rv with
      | nil => exact ⟨rfl, go _ _ k rl fun _ _ => rfl⟩
      | cons _ _ => exact k.elim
    | cons _ _ => simp [mTs] at h
  | .cons t ts, x, h => by
    cases x with
    | nil => simp [mTs] at h
    | cons e es =>
      simp only [mTs, Bool.and_eq_true] at h
      refine (pgs_cons (g_ok ok lo t e h.1) (gs_ok ok lo ts es h.2) (by rw [mT_as h.1]; rfl)).imp fun v σ H Q ⟨ds, d, Kk, rl, rv, k, go⟩ => ?_
      cases rv with
      | nil => exact k.elim
      | @cons d r v vs rd rr =>
        refine ⟨v, vs, rfl, ds, d, _, rl, rd, k, fun ds1 σ1 k1 rl1 w1 => ?_⟩
        refine ⟨ds1, r, Kk, rl1, rr, k1, fun ds2 σ2 k2 rl2 w2 => go ds2 σ2 k2 rl2 fun vs hv => ?_⟩
        rw [w2 vs fun i hi => hv i (by simp [tgsV, hi]), w1 vs fun i hi => hv i (by simp [tgsV, hi])]
end

/-! ### comprehensions -/
theorem tLc_ok {σ : L2.St} {ds : Loc} {S S1 : Sto} {H H1 : Hp} {l : List D} {chk : Sto → Prop} {J : L2.It} {vs : List Nat} {tg : Tg} {c : Oe} {elt : Ex} {Kk : DK} {Q : VK} (rl : RL X.K H ds σ) (rs : RepS X.K S H) (e1 : Ext S H S1 H1) (rs1 : RepS X.K S1 H1) (hv : ∀ i ∈ tgV tg, i ∈ vs)
    (io : ItOk X.K l chk S1 H1 J) (aft : Aft X.K S H Kk Q)
    (k : lcW chk (fun d S2 Kt => tgW tg d (wipe ds vs) fun σ2 => ocW C c σ2 S2 fun b S3 => if b = true then exW C elt σ2 noX S3 fun x S4 => Kt (some x) S4 else Kt none S3) l [] S1 fun l S5 => ∀ p, S5 p = none → Kk (.ref p) (put S5 p (.lst l))) :
    ∀ D, H1 D = none → ∃ W : Nat → Nat → Hp → Prop, (∃ m, W 0 m (upd H1 D (.lst []))) ∧ ∀ i m H, W i m H →
      (J.stop i H ∧ Q (.ref D) H) ∨ (J.go i H ∧ ∃ Nx : Hp → Prop, (∀ H', Nx H' → ∃ m', m' < m ∧ W (i + 1) m' H') ∧ ∀ x H', J.yld i H x H' → lG X.K tg x (L2.wipe σ vs) H' fun σ2 H2 => L2.wipe σ2 vs = L2.wipe σ vs ∧ lC X C c σ2 H2 fun b H3 =>
        if b = true then lE X C (fun _ _ _ _ => False) elt σ2 H3 fun y H4 => ∃ acc, H4 D = some (.lst acc) ∧ acc.length < sizeLine ∧ Nx (upd H4 D (.lst (acc ++ [y]))) else Nx H3) := by
  intro DD hD
  have hSD : S1 DD = none := rs1.ne hD
  let turn : D → Sto → (Option D → Sto → Prop) → Prop := fun d S2 Kt => tgW tg d (wipe ds vs) fun σ2 => ocW C c σ2 S2 fun b S3 => if b = true then exW C elt σ2 noX S3 fun x S4 => Kt (some x) S4 else Kt none S3
  let fin : List D → Sto → Prop := fun l S5 => ∀ p, S5 p = none → Kk (.ref p) (put S5 p (.lst l))
  let In : Nat → Hp → Prop := fun i G => ∃ T acc av, lcW chk turn (l.drop i) acc T fin ∧ RepS X.K T G ∧ Ext S1 H1 T G ∧ T DD = none ∧ G DD = some (.lst av) ∧ RVs X.K G acc av
  refine ⟨fun i m G => m = l.length - i ∧ i ≤ l.length ∧ In i G, ⟨l.length, by simp, Nat.zero_le _, S1, [], [], by rw [List.drop_zero]; exact k, rs1.free hD, Ext.free rs1 hD, hSD, upd_same, .nil⟩, ?_⟩
  rintro i m G ⟨rfl, hi, T, acc, av, kk, rT, eT, hT, hG, ra⟩
  by_cases hlt : i < l.length
  · rw [List.drop_eq_getElem_cons hlt] at kk
    obtain ⟨hc, kk⟩ := kk
    refine .inr ⟨io.go i T G hlt rT hc eT, In (i + 1), fun G' h => ⟨l.length - (i + 1), by omega, rfl, hlt, h⟩, fun x G1 y => ?_⟩
    obtain ⟨d, ed, rd, eG, rG⟩ := io.yld i T G x G1 hlt rT hc eT y
    rw [List.getElem?_eq_getElem hlt] at ed
    cases ed
    have st0 : Stay H G1 := ((e1.trans eT).trans eG).stay rs
    refine ⟨wipe ds vs, _, _, (rl.mono st0).wipe vs, rd, kk, fun ds2 σ2 k2 rl2 w2 => ⟨?_, ?_⟩⟩
    · rw [w2 vs hv]
      have ww : ∀ vs : List Nat, L2.wipe (L2.wipe σ vs) vs = L2.wipe σ vs := fun vs => by
        have one : ∀ (us : List Nat) (τ : L2.St), (∀ u ∈ us, u < τ.length → τ[u]? = some none) → L2.wipe τ us = τ := fun us => by
          induction us with
          | nil => intros; rfl
          | cons u us ih =>
            intro τ h
            simp only [L2.wipe]
            rw [ih τ fun v hv => h v (List.mem_cons_of_mem _ hv)]
            by_cases hu : u < τ.length
            · have e := h u List.mem_cons_self hu
              apply List.ext_getElem?
              intro j
              by_cases hj : u = j
              · subst hj; rw [List.getElem?_set_self hu, e]
              · rw [List.getElem?_set_ne hj]
            · exact List.set_eq_of_length_le (by omega)
        have len : ∀ (us : List Nat) (τ : L2.St), (L2.wipe τ us).length = τ.length := fun us => by
          induction us with
          | nil => intros; rfl
          | cons u us ih => intro τ; simp only [L2.wipe, List.length_set]; exact ih τ
        have no : ∀ (us : List Nat) (τ : L2.St) (u : Nat), u ∈ us → u < τ.length → (L2.wipe τ us)[u]? = some none := fun us => by
          induction us with
          | nil => intro _ _ h; cases h
          | cons w us ih =>
            intro τ u hu hl
            simp only [L2.wipe]
            by_cases e : w = u
            · subst e
              rw [List.getElem?_set_self (by rw [len]; exact hl)]
            · rw [List.getElem?_set_ne e]
              exact ih τ u (by cases hu with | head => exact absurd rfl e | tail _ h => exact h) hl
        exact one vs _ fun u hu hl => no vs σ u hu (by rw [len] at hl; exact hl)
      exact ww vs
    · refine ⟨ds2, T, _, rl2, rG, k2, fun b S3 H3 k3 e3 rs3 => ?_⟩
      have hT3 : S3 DD = none := e3.away DD hT (by rw [eG.keep DD _ hT hG]; simp)
      have hG3 : H3 DD = some (.lst av) := e3.keep DD _ hT (eG.keep DD _ hT hG)
      have ra3 : RVs X.K H3 acc av := ra.mono ((eG.stay rT).trans (e3.stay rG))
      cases b with
      | false =>
        rw [if_neg Bool.false_ne_true] at k3
        show In (i + 1) H3
        exact ⟨S3, acc, av, k3, rs3, (eT.trans eG).trans e3, hT3, hG3, ra3⟩
      | true =>
        rw [if_pos rfl] at k3
        show lE X C (fun _ _ _ _ => False) elt σ2 H3 _
        refine ⟨ds2, S3, noX, _, rl2.mono (e3.stay rG), rs3, k3, fun d' S4 v H4 ⟨hz, k4⟩ e4 rs4 rv => ?_, fun _ _ _ _ _ z => z.elim⟩
        have hT4 : S4 DD = none := e4.away DD hT3 (by rw [hG3]; simp)
        have hG4 : H4 DD = some (.lst av) := e4.keep DD _ hT3 hG3
        have ra4 : RVs X.K H4 acc av := ra3.mono (e4.stay rs3)
        refine ⟨av, hG4, by rw [← ra4.len, ← line_eq]; exact hz, S4, acc ++ [d'], av ++ [v], k4, fun a o ea => ?_, ⟨fun a o h1 h2 => ?_, fun a h1 h2 => (((eT.trans eG).trans e3).trans e4).away a h1 h2⟩, hT4, upd_same, (ra4.app (.cons rv .nil)).mono (stay_old hG4 trivial)⟩
        · have ne : a ≠ DD := by rintro rfl; rw [hT4] at ea; cases ea
          exact (rs4 a o ea).mono (stay_old hG4 trivial) fun u q => by rw [upd_ne ne]; exact q
        · have ne : a ≠ DD := by rintro rfl; rw [hD] at h2; cases h2
          rw [upd_ne ne]
          exact (((eT.trans eG).trans e3).trans e4).keep a o h1 h2
  · have ei : i = l.length := by omega
    subst ei
    rw [List.drop_length] at kk
    obtain ⟨hc, kk⟩ := kk
    refine .inl ⟨io.stop T G rT hc eT, aft (.ref DD) (put T DD (.lst acc)) _ G (kk DD hT) (e1.trans ⟨eT.keep, fun a h1 h2 => ?_⟩) (fun a o ea => ?_) (.ref DD)⟩
    · rw [put_ne (by rintro rfl; exact h2 hD)]
      exact eT.away a h1 h2
    · by_cases h : a = DD
      · subst h
        rw [put_same] at ea
        cases ea
        exact ⟨av, hG, ra⟩
      · rw [put_ne h] at ea
        exact rT a o ea
end
end Ev
set_option Elab.async false
set_option linter.all false
set_option maxRecDepth 100000
set_option maxHeartbeats 4000000
/-! EvC4: the expressions together. -/
namespace Ev
open PySem PySem.Spec PyProof.Rows L2

theorem tgs_all {tg : Tg} {vs : List Nat} (h : ((tgV tg).all fun i => decide (i ∈ vs)) = true) : ∀ i ∈ tgV tg, i ∈ vs := fun i hi => of_decide_eq_true (List.all_eq_true.1 h i hi)
theorem loc_blk {X : Cx} {s : Shared} {H : Hp} {sc : Scope} {cl : List (Str × Addr)} {A : Addr} {fp : List Addr} : LocOk (X.blk s H sc (compEnvC sc cl A X.env) fp) sc := fun x h => by
  unfold locB at h
  split at h
  · rename_i e
    have e2 := lookup_relS_keep (sc := X.env.scope) (k := .local) (by decide) e
    exact ⟨.inl e2, .inr e2⟩
  · rename_i e
    have e2 := lookup_relS_keep (sc := X.env.scope) (k := .cell) (by decide) e
    refine ⟨.inr e2, .inl ?_⟩
    show (sc.names.lookup x == some NameKind.cell) = true
    rw [e]
    rfl
  · cases h
theorem notSet_fold {x : Expr} (h : notSet x = true) (env : Env) (v : Value) : foldedSetIterable x env v = pure v := by
  cases x <;> first | rfl | cases h
theorem mI_fold {G N : List Str} {sc : Scope} {it : It} {t x : Expr} (h : mI G N sc it t x = true) (env : Env) (v : Value) : foldedSetIterable x env v = pure v := by
  cases x with
  | Set l k p => cases it <;> cases t <;> simp [mI, notSet] at h
  | _ => rfl
theorem mth_bad {G N : List Str} {sc : Scope} {m : Mt} {o a : Ex} {es : Exs} {x : Expr} (hb : mokB m es = false) : mE G N sc (.mth m o (.cons a es)) x = false := by
  cases x with
  | Call g l kw pos =>
    cases g with
    | Attribute y nm ap => cases l <;> cases kw <;> simp [mE, hb]
    | _ => simp [mE]
  | _ => simp [mE]
section
variable {p : Prog} {n : Nat} {G : List Str} (hG : ∀ f ∈ G, ∃ d, p f = some d)
include hG
mutual
theorem e_ok : ∀ (e : Ex) (X : Cx) (W : WX) (x : Expr), Ok p n X → Takes X W → mE G X.N X.env.scope e x = true → PE X x (lE X (callW p n) W e)
  | .var i, X, W, x, ok, tk, h => by
    cases x with
    | Name nm pos =>
      simp only [mE, Bool.and_eq_true, decide_eq_true_eq] at h
      exact s_var h.1 h.2.1 h.2.2
    | _ => simp [mE] at h
  | .non, X, W, x, ok, tk, h => by
    cases x with
    | Constant c j pos =>
      cases c with
      | none => exact s_non
      | _ => simp [mE] at h
    | _ => simp [mE] at h
  | .bl b, X, W, x, ok, tk, h => by
    cases x with
    | Constant c j pos =>
      cases c with
      | bool d =>
        have e : b = d := by simpa [mE] using h
        subst e
        exact s_bl
      | _ => simp [mE] at h
    | _ => simp [mE] at h
  | .int b, X, W, x, ok, tk, h => by
    cases x with
    | Constant c j pos =>
      cases c with
      | int d =>
        have e : b = d := by simpa [mE] using h
        subst e
        exact s_int
      | _ => simp [mE] at h
    | _ => simp [mE] at h
  | .str b, X, W, x, ok, tk, h => by
    cases x with
    | Constant c j pos =>
      cases c with
      | str d =>
        have e : b = d := by simpa [mE] using h
        subst e
        exact s_str
      | _ => simp [mE] at h
    | _ => simp [mE] at h
  | .tup es, X, W, x, ok, tk, h => by
    cases x with
    | Tuple l j pos =>
      simp only [mE] at h
      exact s_tup (es_ok es X W l ok tk h)
    | _ => simp [mE] at h
  | .lst es, X, W, x, ok, tk, h => by
    cases x with
    | List l pos =>
      simp only [mE] at h
      exact s_lst (es_ok es X W l ok tk h)
    | _ => simp [mE] at h
  | .dic0, X, W, x, ok, tk, h => by
    cases x with
    | Dict ks vs pos =>
      cases ks with
      | nil =>
        cases vs with
        | nil => exact s_dic0
        | cons _ _ => simp [mE] at h
      | cons _ _ => simp [mE] at h
    | _ => simp [mE] at h
  | .bin op a b, X, W, x, ok, tk, h => by
    cases x with
    | BinOp x o y pos =>
      simp only [mE, Bool.and_eq_true, decide_eq_true_eq] at h
      obtain ⟨rfl, h1, h2⟩ := h
      exact s_bin (e_ok a X W x ok tk h1) (e_ok b X W y ok tk h2)
    | _ => simp [mE] at h
  | .neg a, X, W, x, ok, tk, h => by
    cases x with
    | UnaryOp o x pos =>
      cases o with
      | USub =>
        simp only [mE] at h
        exact s_neg (e_ok a X W x ok tk h)
      | _ => simp [mE] at h
    | _ => simp [mE] at h
  | .inv a, X, W, x, ok, tk, h => by
    cases x with
    | UnaryOp o x pos =>
      cases o with
      | Invert =>
        simp only [mE] at h
        exact s_inv (e_ok a X W x ok tk h)
      | _ => simp [mE] at h
    | _ => simp [mE] at h
  | .not a, X, W, x, ok, tk, h => by
    cases x with
    | UnaryOp o x pos =>
      cases o with
      | Not =>
        simp only [mE] at h
        exact s_not (e_ok a X W x ok tk h)
      | _ => simp [mE] at h
    | _ => simp [mE] at h
  | .cmp op a b, X, W, x, ok, tk, h => by
    cases x with
    | Compare x os ys pos =>
      rcases os with _ | ⟨o, _ | ⟨o2, os⟩⟩ <;> rcases ys with _ | ⟨y, _ | ⟨y2, ys⟩⟩ <;> first | (simp [mE] at h; done) | skip
      simp only [mE, Bool.and_eq_true, decide_eq_true_eq] at h
      obtain ⟨rfl, h1, h2⟩ := h
      exact s_cmp ok.hu (e_ok a X W x ok tk h1) (e_ok b X W y ok tk h2) (mE_pl h2).2.2
    | _ => simp [mE] at h
  | .chn o1 o2 a b c, X, W, x, ok, tk, h => by
    cases x with
    | Compare x os ys pos =>
      rcases os with _ | ⟨o, _ | ⟨o', _ | ⟨o3, os⟩⟩⟩ <;> rcases ys with _ | ⟨y, _ | ⟨y2, _ | ⟨y3, ys⟩⟩⟩ <;> first | (simp [mE] at h; done) | skip
      simp only [mE, Bool.and_eq_true, decide_eq_true_eq] at h
      obtain ⟨rfl, rfl, h1, h2, h3⟩ := h
      exact s_chn ok.hu (e_ok a X W x ok tk h1) (e_ok b X W y ok tk h2) (e_ok c X W y2 ok tk h3) (mE_pl h3).2.2
    | _ => simp [mE] at h
  | .and a b, X, W, x, ok, tk, h => by
    cases x with
    | BoolOp o xs pos =>
      cases o with
      | And =>
        rcases xs with _ | ⟨x, _ | ⟨y, _ | ⟨z, xs⟩⟩⟩ <;> first | (simp [mE] at h; done) | skip
        · simp only [mE, Bool.and_eq_true] at h
          exact s_and (e_ok a X W x ok tk h.1) (pe_one (e_ok b X W y ok tk h.2))
        · simp only [mE, Bool.and_eq_true] at h
          exact s_and (e_ok a X W x ok tk h.1) (e_ok b X W _ ok tk h.2)
      | Or => simp [mE] at h
    | _ => simp [mE] at h
  | .or a b, X, W, x, ok, tk, h => by
    cases x with
    | BoolOp o xs pos =>
      cases o with
      | Or =>
        rcases xs with _ | ⟨x, _ | ⟨y, _ | ⟨z, xs⟩⟩⟩ <;> first | (simp [mE] at h; done) | skip
        · simp only [mE, Bool.and_eq_true] at h
          exact s_or (e_ok a X W x ok tk h.1) (pe_one (e_ok b X W y ok tk h.2))
        · simp only [mE, Bool.and_eq_true] at h
          exact s_or (e_ok a X W x ok tk h.1) (e_ok b X W _ ok tk h.2)
      | And => simp [mE] at h
    | _ => simp [mE] at h
  | .ite c a b, X, W, x, ok, tk, h => by
    cases x with
    | IfExp x y z pos =>
      simp only [mE, Bool.and_eq_true] at h
      exact s_ite (t_ok c X W x ok tk h.1 h.2.1) (e_ok a X W y ok tk h.2.2.1) (e_ok b X W z ok tk h.2.2.2)
    | _ => simp [mE] at h
  | .idx a i, X, W, x, ok, tk, h => by
    cases x with
    | Subscript x y pos =>
      have h' : mE G X.N X.env.scope a x = true ∧ mE G X.N X.env.scope i y = true := by
        cases y <;> simpa [mE] using h
      exact s_idx ok.hu (e_ok a X W x ok tk h'.1) (e_ok i X W y ok tk h'.2) (mE_pl h'.2).2.1
    | _ => simp [mE] at h
  | .slc a lo hi, X, W, x, ok, tk, h => by
    cases x with
    | Subscript x y pos =>
      cases y with
      | Slice l u s p2 =>
        cases s with
        | none =>
          simp only [mE, Bool.and_eq_true] at h
          exact s_slc (e_ok a X W x ok tk h.1) (o_ok lo X W l ok tk h.2.1) (o_ok hi X W u ok tk h.2.2)
        | some _ => simp [mE] at h
      | _ => simp [mE] at h
    | _ => simp [mE] at h
  | .call f es, X, W, x, ok, tk, h => by
    cases x with
    | Call g l kw pos =>
      cases g with
      | Name g q =>
        cases kw with
        | nil =>
          simp only [mE, Bool.and_eq_true, decide_eq_true_eq] at h
          obtain ⟨rfl, h1, h2, h3, h4⟩ := h
          obtain ⟨d, hd⟩ := hG f h1
          cases l with
          | nil =>
            cases es with
            | nil => exact s_call0 ok tk h3 h2 hd
            | cons _ _ => simp [mEs] at h4
          | cons e l =>
            have pl := mEs_pl h4 (X := X)
            have hs : isStar e = false := by
              cases es with
              | nil => simp [mEs] at h4
              | cons _ _ =>
                simp only [mEs, Bool.and_eq_true] at h4
                exact (mE_pl h4.1).1
            have hp : Pl X l := by
              cases es with
              | nil => simp [mEs] at h4
              | cons _ _ =>
                simp only [mEs, Bool.and_eq_true] at h4
                exact mEs_pl h4.2
            exact s_call ok tk h3 h2 hd (es_ok es X W (e :: l) ok tk h4) hs hp
        | cons _ _ => simp [mE] at h
      | _ => simp [mE] at h
    | _ => simp [mE] at h
  | .blt f es, X, W, x, ok, tk, h => by
    cases x with
    | Call g l kw pos =>
      cases g with
      | Name g q =>
        rcases l with _ | ⟨e, l⟩ <;> rcases kw with _ | ⟨k, kw⟩ <;> first | (simp [mE] at h; done) | skip
        simp only [mE, Bool.and_eq_true, decide_eq_true_eq] at h
        obtain ⟨rfl, h2, h4⟩ := h
        have hs : isStar e = false := by
          cases es with
          | nil => simp [mEs] at h4
          | cons _ _ =>
            simp only [mEs, Bool.and_eq_true] at h4
            exact (mE_pl h4.1).1
        have hp : Pl X l := by
          cases es with
          | nil => simp [mEs] at h4
          | cons _ _ =>
            simp only [mEs, Bool.and_eq_true] at h4
            exact mEs_pl h4.2
        exact s_blt ok h2 (es_ok es X W (e :: l) ok tk h4) hs hp
      | _ => simp [mE] at h
    | _ => simp [mE] at h
  | .isi a t, X, W, x, ok, tk, h => by
    cases x with
    | Call g l kw pos =>
      cases g with
      | Name g q =>
        rcases l with _ | ⟨e, _ | ⟨T, _ | ⟨e3, l⟩⟩⟩ <;> rcases kw with _ | ⟨k, kw⟩ <;> first | (simp [mE] at h; done) | skip
        · cases T with
          | Name T p2 =>
            simp only [mE, Bool.and_eq_true, decide_eq_true_eq] at h
            exact s_isi ok (e_ok a X W e ok tk h.2.2.2.2) (mE_pl h.2.2.2.2).1 h.1 h.2.1 h.2.2.1 h.2.2.2.1
          | _ => simp [mE] at h
        all_goals (cases T <;> simp [mE] at h)
      | _ => simp [mE] at h
    | _ => simp [mE] at h
  | .mth .append o (.cons a es), X, W, x, ok, tk, h => by
    cases x with
    | Call g l kw pos =>
      cases g with
      | Attribute y nm ap =>
        rcases kw with _ | ⟨k, kw⟩
        · cases l with
          | nil => simp [mE] at h
          | cons z l =>
            simp only [mE, Bool.and_eq_true, decide_eq_true_eq] at h
            obtain ⟨hm, rfl, h1, h2, h3, h4, h5, h6⟩ := h
            exact s_mth (.inl rfl) h1 h2 h3 (e_ok o X W y ok tk h4) (s_cons (e_ok a X W z ok tk h5) (es_ok es X W l ok tk h6) (mE_pl h5).1) (mE_pl h5).1 (mEs_pl h6)
        · cases l <;> simp [mE] at h
      | _ => simp [mE] at h
    | _ => simp [mE] at h
  | .mth .append o .nil, X, W, x, ok, tk, h => by simp [mE] at h
  | .mth .extend o (.cons a es), X, W, x, ok, tk, h => by
    cases x with
    | Call g l kw pos =>
      cases g with
      | Attribute y nm ap =>
        rcases kw with _ | ⟨k, kw⟩
        · cases l with
          | nil => simp [mE] at h
          | cons z l =>
            simp only [mE, Bool.and_eq_true, decide_eq_true_eq] at h
            obtain ⟨hm, rfl, h1, h2, h3, h4, h5, h6⟩ := h
            exact s_mth (.inr (.inl rfl)) h1 h2 h3 (e_ok o X W y ok tk h4) (s_cons (e_ok a X W z ok tk h5) (es_ok es X W l ok tk h6) (mE_pl h5).1) (mE_pl h5).1 (mEs_pl h6)
        · cases l <;> simp [mE] at h
      | _ => simp [mE] at h
    | _ => simp [mE] at h
  | .mth .extend o .nil, X, W, x, ok, tk, h => by simp [mE] at h
  | .mth .pop1 o (.cons a es), X, W, x, ok, tk, h => by
    cases x with
    | Call g l kw pos =>
      cases g with
      | Attribute y nm ap =>
        rcases kw with _ | ⟨k, kw⟩
        · cases l with
          | nil => simp [mE] at h
          | cons z l =>
            simp only [mE, Bool.and_eq_true, decide_eq_true_eq] at h
            obtain ⟨hm, rfl, h1, h2, h3, h4, h5, h6⟩ := h
            exact s_mth (.inr (.inr rfl)) h1 h2 h3 (e_ok o X W y ok tk h4) (s_cons (e_ok a X W z ok tk h5) (es_ok es X W l ok tk h6) (mE_pl h5).1) (mE_pl h5).1 (mEs_pl h6)
        · cases l <;> simp [mE] at h
      | _ => simp [mE] at h
    | _ => simp [mE] at h
  | .mth .pop1 o .nil, X, W, x, ok, tk, h => by simp [mE] at h
  | .mth .get2 o (.cons a (.cons b .nil)), X, W, x, ok, tk, h => by
    cases x with
    | Call g l kw pos =>
      cases g with
      | Attribute y nm ap =>
        rcases kw with _ | ⟨k, kw⟩
        · rcases l with _ | ⟨z, _ | ⟨z2, _ | ⟨z3, l⟩⟩⟩ <;> first | (simp [mE, mEs] at h; done) | skip
          simp only [mE, mEs, Bool.and_eq_true, decide_eq_true_eq] at h
          obtain ⟨hm, rfl, h1, h2, h3, h4, h5, h6, _⟩ := h
          exact s_get2 ok.hu h1 h2 (e_ok o X W y ok tk h4) (e_ok a X W z ok tk h5) (e_ok b X W z2 ok tk h6) (mE_pl h5).1 (mE_pl h6).1
        · cases l <;> simp [mE] at h
      | _ => simp [mE] at h
    | _ => simp [mE] at h
  | .mth .get2 o .nil, X, W, x, ok, tk, h => by simp [mE] at h
  | .mth .get2 o (.cons a .nil), X, W, x, ok, tk, h => by rw [mth_bad rfl] at h; cases h
  | .mth .get2 o (.cons a (.cons b (.cons c es))), X, W, x, ok, tk, h => by rw [mth_bad rfl] at h; cases h
  | .mth .bitlen o .nil, X, W, x, ok, tk, h => by
    cases x with
    | Call g l kw pos =>
      cases g with
      | Attribute y nm ap =>
        rcases kw with _ | ⟨k, kw⟩
        · cases l with
          | nil =>
            simp only [mE, Bool.and_eq_true, decide_eq_true_eq] at h
            obtain ⟨rfl, h1, h2, h3⟩ := h
            exact s_bits h1 h2 (e_ok o X W y ok tk h3)
          | cons _ _ => simp [mE] at h
        · cases l <;> simp [mE] at h
      | _ => simp [mE] at h
    | _ => simp [mE] at h
  | .mth .bitlen o (.cons a es), X, W, x, ok, tk, h => by rw [mth_bad (by cases es <;> rfl)] at h; cases h
  | .mth .pop0 o .nil, X, W, x, ok, tk, h => by
    cases x with
    | Call g l kw pos =>
      cases g with
      | Attribute y nm ap =>
        rcases kw with _ | ⟨k, kw⟩
        · cases l with
          | nil =>
            simp only [mE, Bool.and_eq_true, decide_eq_true_eq] at h
            obtain ⟨rfl, h1, h2, h3⟩ := h
            exact s_pop0 h1 h2 (e_ok o X W y ok tk h3)
          | cons _ _ => simp [mE] at h
        · cases l <;> simp [mE] at h
      | _ => simp [mE] at h
    | _ => simp [mE] at h
  | .mth .pop0 o (.cons a es), X, W, x, ok, tk, h => by rw [mth_bad (by cases es <;> rfl)] at h; cases h
  | .mth .insert o .nil, X, W, x, ok, tk, h => by simp [mE] at h
  | .mth .insert o (.cons a es), X, W, x, ok, tk, h => by rw [mth_bad (by cases es <;> rfl)] at h; cases h
  | .mth .remove o .nil, X, W, x, ok, tk, h => by simp [mE] at h
  | .mth .remove o (.cons a es), X, W, x, ok, tk, h => by rw [mth_bad (by cases es <;> rfl)] at h; cases h
  | .mth .index o .nil, X, W, x, ok, tk, h => by simp [mE] at h
  | .mth .index o (.cons a es), X, W, x, ok, tk, h => by rw [mth_bad (by cases es <;> rfl)] at h; cases h
  | .mth .count o .nil, X, W, x, ok, tk, h => by simp [mE] at h
  | .mth .count o (.cons a es), X, W, x, ok, tk, h => by rw [mth_bad (by cases es <;> rfl)] at h; cases h
  | .mth .reverse o .nil, X, W, x, ok, tk, h => by simp [mE] at h
  | .mth .reverse o (.cons a es), X, W, x, ok, tk, h => by rw [mth_bad (by cases es <;> rfl)] at h; cases h
  | .lc elt tg it c vs, X, W, x, ok, tk, h => by
    cases x with
    | ListComp x gs s pos =>
      rcases gs with _ | ⟨⟨t, i, cs, a⟩, _ | ⟨g2, gs⟩⟩
      · simp [mE] at h
      · cases a with
        | ofNat a =>
         cases a with
         | succ a => unfold mE at h; split at h <;> first | (cases h; done) | (rename_i e; cases e; done) | skip
         | zero =>
          have h : mE G X.N X.env.scope (.lc elt tg it c vs) (.ListComp x [⟨t, i, cs, 0⟩] s pos) = true := h
          simp only [mE, Bool.and_eq_true] at h
          obtain ⟨h1, h2, h3, h4, h5, h6⟩ := h
          have own : (ownOf X.N vs).map (fun x => x.2) = vs := by unfold ownOf; rw [List.map_map]; exact List.map_id _
          have hv := tgs_all h2
          have q := pe_lc (g := lG X.K tg) (tt := lC X (callW p n) c) (te := lE X (callW p n) (fun _ _ _ _ => False) elt) ok.calm ok.nd (i_ok it X W t i ok tk h3) (blkOk_by h1)
            (fun s' H A cl fp => g_ok (ok.blk s' H s _ fp) loc_blk tg t h4)
            (fun s' H A cl fp => c_ok c (X.blk s' H s (compEnvC s cl A X.env) fp) cs (ok.blk s' H s _ fp) takes0 h5)
            (fun s' H A cl fp => e_ok elt (X.blk s' H s (compEnvC s cl A X.env) fp) _ x (ok.blk s' H s _ fp) takes0 h6) (pos := pos) (mI_fold h3 X.env)
          rw [own] at q
          refine q.imp fun σ H Q ⟨ds, S, E, Kk, rl, rs, k, aft, xk⟩ => ?_
          exact ⟨ds, S, E, _, rl, rs, k, fun l chk S1 J H1 k1 e1 rs1 io => tLc_ok rl rs e1 rs1 hv io aft k1, xk⟩
        | negSucc a => simp [mE] at h
      · simp [mE] at h
    | _ => simp [mE] at h
termination_by e => (sizeOf e, 0)
decreasing_by all_goals (first | decreasing_tactic | (simp_wf; omega) | (apply Prod.Lex.right; decide))
theorem t_ok : ∀ (e : Ex) (X : Cx) (W : WX) (x : Expr), Ok p n X → Takes X W → tstB e = true → mE G X.N X.env.scope e x = true → PT X x (lT X (callW p n) W e)
  | .var i, X, W, x, ok, tk, ht, h => s_tru (e_ok (.var i) X W x ok tk h) fun whole => by
      cases x with
      | UnaryOp o x pos => cases o <;> first | rfl | (simp [mE] at h; done)
      | BoolOp o x pos => simp [mE] at h
      | IfExp x y z pos => simp [mE] at h
      | Compare x y z pos => simp [mE] at h
      | _ => rfl
  | .non, X, W, x, ok, tk, ht, h => s_tru (e_ok (.non) X W x ok tk h) fun whole => by
      cases x with
      | UnaryOp o x pos => cases o <;> first | rfl | (simp [mE] at h; done)
      | BoolOp o x pos => simp [mE] at h
      | IfExp x y z pos => simp [mE] at h
      | Compare x y z pos => simp [mE] at h
      | _ => rfl
  | .bl b, X, W, x, ok, tk, ht, h => s_tru (e_ok (.bl b) X W x ok tk h) fun whole => by
      cases x with
      | UnaryOp o x pos => cases o <;> first | rfl | (simp [mE] at h; done)
      | BoolOp o x pos => simp [mE] at h
      | IfExp x y z pos => simp [mE] at h
      | Compare x y z pos => simp [mE] at h
      | _ => rfl
  | .int b, X, W, x, ok, tk, ht, h => s_tru (e_ok (.int b) X W x ok tk h) fun whole => by
      cases x with
      | UnaryOp o x pos => cases o <;> first | rfl | (simp [mE] at h; done)
      | BoolOp o x pos => simp [mE] at h
      | IfExp x y z pos => simp [mE] at h
      | Compare x y z pos => simp [mE] at h
      | _ => rfl
  | .str b, X, W, x, ok, tk, ht, h => s_tru (e_ok (.str b) X W x ok tk h) fun whole => by
      cases x with
      | UnaryOp o x pos => cases o <;> first | rfl | (simp [mE] at h; done)
      | BoolOp o x pos => simp [mE] at h
      | IfExp x y z pos => simp [mE] at h
      | Compare x y z pos => simp [mE] at h
      | _ => rfl
  | .tup es, X, W, x, ok, tk, ht, h => s_tru (e_ok (.tup es) X W x ok tk h) fun whole => by
      cases x with
      | UnaryOp o x pos => cases o <;> first | rfl | (simp [mE] at h; done)
      | BoolOp o x pos => simp [mE] at h
      | IfExp x y z pos => simp [mE] at h
      | Compare x y z pos => simp [mE] at h
      | _ => rfl
  | .lst es, X, W, x, ok, tk, ht, h => s_tru (e_ok (.lst es) X W x ok tk h) fun whole => by
      cases x with
      | UnaryOp o x pos => cases o <;> first | rfl | (simp [mE] at h; done)
      | BoolOp o x pos => simp [mE] at h
      | IfExp x y z pos => simp [mE] at h
      | Compare x y z pos => simp [mE] at h
      | _ => rfl
  | .dic0, X, W, x, ok, tk, ht, h => s_tru (e_ok (.dic0) X W x ok tk h) fun whole => by
      cases x with
      | UnaryOp o x pos => cases o <;> first | rfl | (simp [mE] at h; done)
      | BoolOp o x pos => simp [mE] at h
      | IfExp x y z pos => simp [mE] at h
      | Compare x y z pos => simp [mE] at h
      | _ => rfl
  | .bin op a b, X, W, x, ok, tk, ht, h => s_tru (e_ok (.bin op a b) X W x ok tk h) fun whole => by
      cases x with
      | UnaryOp o x pos => cases o <;> first | rfl | (simp [mE] at h; done)
      | BoolOp o x pos => simp [mE] at h
      | IfExp x y z pos => simp [mE] at h
      | Compare x y z pos => simp [mE] at h
      | _ => rfl
  | .neg a, X, W, x, ok, tk, ht, h => s_tru (e_ok (.neg a) X W x ok tk h) fun whole => by
      cases x with
      | UnaryOp o x pos => cases o <;> first | rfl | (simp [mE] at h; done)
      | BoolOp o x pos => simp [mE] at h
      | IfExp x y z pos => simp [mE] at h
      | Compare x y z pos => simp [mE] at h
      | _ => rfl
  | .inv a, X, W, x, ok, tk, ht, h => s_tru (e_ok (.inv a) X W x ok tk h) fun whole => by
      cases x with
      | UnaryOp o x pos => cases o <;> first | rfl | (simp [mE] at h; done)
      | BoolOp o x pos => simp [mE] at h
      | IfExp x y z pos => simp [mE] at h
      | Compare x y z pos => simp [mE] at h
      | _ => rfl
  | .idx a i, X, W, x, ok, tk, ht, h => s_tru (e_ok (.idx a i) X W x ok tk h) fun whole => by
      cases x with
      | UnaryOp o x pos => cases o <;> first | rfl | (simp [mE] at h; done)
      | BoolOp o x pos => simp [mE] at h
      | IfExp x y z pos => simp [mE] at h
      | Compare x y z pos => simp [mE] at h
      | _ => rfl
  | .slc a lo hi, X, W, x, ok, tk, ht, h => s_tru (e_ok (.slc a lo hi) X W x ok tk h) fun whole => by
      cases x with
      | UnaryOp o x pos => cases o <;> first | rfl | (simp [mE] at h; done)
      | BoolOp o x pos => simp [mE] at h
      | IfExp x y z pos => simp [mE] at h
      | Compare x y z pos => simp [mE] at h
      | _ => rfl
  | .call f es, X, W, x, ok, tk, ht, h => s_tru (e_ok (.call f es) X W x ok tk h) fun whole => by
      cases x with
      | UnaryOp o x pos => cases o <;> first | rfl | (simp [mE] at h; done)
      | BoolOp o x pos => simp [mE] at h
      | IfExp x y z pos => simp [mE] at h
      | Compare x y z pos => simp [mE] at h
      | _ => rfl
  | .blt f es, X, W, x, ok, tk, ht, h => s_tru (e_ok (.blt f es) X W x ok tk h) fun whole => by
      cases x with
      | UnaryOp o x pos => cases o <;> first | rfl | (simp [mE] at h; done)
      | BoolOp o x pos => simp [mE] at h
      | IfExp x y z pos => simp [mE] at h
      | Compare x y z pos => simp [mE] at h
      | _ => rfl
  | .isi a t, X, W, x, ok, tk, ht, h => s_tru (e_ok (.isi a t) X W x ok tk h) fun whole => by
      cases x with
      | UnaryOp o x pos => cases o <;> first | rfl | (simp [mE] at h; done)
      | BoolOp o x pos => simp [mE] at h
      | IfExp x y z pos => simp [mE] at h
      | Compare x y z pos => simp [mE] at h
      | _ => rfl
  | .mth m o es, X, W, x, ok, tk, ht, h => s_tru (e_ok (.mth m o es) X W x ok tk h) fun whole => by
      cases x with
      | UnaryOp o x pos => cases m <;> cases es <;> simp [mE] at h
      | BoolOp o x pos => cases m <;> cases es <;> simp [mE] at h
      | IfExp x y z pos => cases m <;> cases es <;> simp [mE] at h
      | Compare x y z pos => cases m <;> cases es <;> simp [mE] at h
      | _ => rfl
  | .lc elt tg it c vs, X, W, x, ok, tk, ht, h => s_tru (e_ok (.lc elt tg it c vs) X W x ok tk h) fun whole => by
      cases x with
      | UnaryOp o x pos => cases o <;> first | rfl | (simp [mE] at h; done)
      | BoolOp o x pos => simp [mE] at h
      | IfExp x y z pos => simp [mE] at h
      | Compare x y z pos => simp [mE] at h
      | _ => rfl
  | .not a, X, W, x, ok, tk, ht, h => by
    cases x with
    | UnaryOp o x pos =>
      cases o with
      | Not =>
        simp only [mE] at h
        simp only [tstB] at ht
        exact t_not (t_ok a X W x ok tk ht h)
      | _ => simp [mE] at h
    | _ => simp [mE] at h
  | .cmp op a b, X, W, x, ok, tk, ht, h => by
    cases x with
    | Compare x os ys pos =>
      rcases os with _ | ⟨o, _ | ⟨o2, os⟩⟩ <;> rcases ys with _ | ⟨y, _ | ⟨y2, ys⟩⟩ <;> first | (simp [mE] at h; done) | skip
      simp only [mE, Bool.and_eq_true, decide_eq_true_eq] at h
      obtain ⟨rfl, h1, h2⟩ := h
      exact t_cmp ok.hu (e_ok a X W x ok tk h1) (e_ok b X W y ok tk h2) (mE_pl h2).2.2
    | _ => simp [mE] at h
  | .chn o1 o2 a b c, X, W, x, ok, tk, ht, h => by
    cases x with
    | Compare x os ys pos =>
      rcases os with _ | ⟨o, _ | ⟨o', _ | ⟨o3, os⟩⟩⟩ <;> rcases ys with _ | ⟨y, _ | ⟨y2, _ | ⟨y3, ys⟩⟩⟩ <;> first | (simp [mE] at h; done) | skip
      simp only [mE, Bool.and_eq_true, decide_eq_true_eq] at h
      obtain ⟨rfl, rfl, h1, h2, h3⟩ := h
      exact t_chn ok.hu (e_ok a X W x ok tk h1) (e_ok b X W y ok tk h2) (e_ok c X W y2 ok tk h3) (mE_pl h3).2.2
    | _ => simp [mE] at h
  | .ite c a b, X, W, x, ok, tk, ht, h => by simp [tstB] at ht
  | .and a b, X, W, x, ok, tk, ht, h => by
    cases x with
    | BoolOp o xs pos =>
      cases o with
      | And => exact (w_ok (.and a b) X W .And xs pos ok tk ht h).pt
      | Or => simp [mE] at h
    | _ => simp [mE] at h
  | .or a b, X, W, x, ok, tk, ht, h => by
    cases x with
    | BoolOp o xs pos =>
      cases o with
      | Or => exact (w_ok (.or a b) X W .Or xs pos ok tk ht h).pt
      | And => simp [mE] at h
    | _ => simp [mE] at h
termination_by e => (sizeOf e, 2)
decreasing_by all_goals (first | decreasing_tactic | (simp_wf; omega) | (apply Prod.Lex.right; decide))
theorem w_ok : ∀ (e : Ex) (X : Cx) (W : WX) (o : BoolOp) (xs : List Expr) (pos : Pos), Ok p n X → Takes X W → tstB e = true → mE G X.N X.env.scope e (.BoolOp o xs pos) = true → PW X (.BoolOp o xs pos) (lT X (callW p n) W e)
  | .and a b, X, W, bo, xs, pos, ok, tk, ht, h => by
    simp only [tstB, Bool.and_eq_true] at ht
    cases bo with
    | And =>
      rcases xs with _ | ⟨x, _ | ⟨y, _ | ⟨z, xs⟩⟩⟩ <;> first | (simp [mE] at h; done) | skip
      · simp only [mE, Bool.and_eq_true] at h
        exact t_and (t_ok a X W x ok tk ht.1 h.1) (pw_and1 (t_ok b X W y ok tk ht.2 h.2))
      · simp only [mE, Bool.and_eq_true] at h
        exact t_and (t_ok a X W x ok tk ht.1 h.1) (w_ok b X W .And _ pos ok tk ht.2 h.2)
    | Or => simp [mE] at h
  | .or a b, X, W, bo, xs, pos, ok, tk, ht, h => by
    simp only [tstB, Bool.and_eq_true] at ht
    cases bo with
    | Or =>
      rcases xs with _ | ⟨x, _ | ⟨y, _ | ⟨z, xs⟩⟩⟩ <;> first | (simp [mE] at h; done) | skip
      · simp only [mE, Bool.and_eq_true] at h
        exact t_or (t_ok a X W x ok tk ht.1 h.1) (pw_or1 (t_ok b X W y ok tk ht.2 h.2))
      · simp only [mE, Bool.and_eq_true] at h
        exact t_or (t_ok a X W x ok tk ht.1 h.1) (w_ok b X W .Or _ pos ok tk ht.2 h.2)
    | And => simp [mE] at h
  | .var i, X, W, bo, xs, pos, ok, tk, ht, h => by simp [mE] at h
  | .non, X, W, bo, xs, pos, ok, tk, ht, h => by simp [mE] at h
  | .bl b, X, W, bo, xs, pos, ok, tk, ht, h => by simp [mE] at h
  | .int b, X, W, bo, xs, pos, ok, tk, ht, h => by simp [mE] at h
  | .str b, X, W, bo, xs, pos, ok, tk, ht, h => by simp [mE] at h
  | .tup es, X, W, bo, xs, pos, ok, tk, ht, h => by simp [mE] at h
  | .lst es, X, W, bo, xs, pos, ok, tk, ht, h => by simp [mE] at h
  | .dic0, X, W, bo, xs, pos, ok, tk, ht, h => by simp [mE] at h
  | .bin op a b, X, W, bo, xs, pos, ok, tk, ht, h => by simp [mE] at h
  | .neg a, X, W, bo, xs, pos, ok, tk, ht, h => by simp [mE] at h
  | .inv a, X, W, bo, xs, pos, ok, tk, ht, h => by simp [mE] at h
  | .idx a i, X, W, bo, xs, pos, ok, tk, ht, h => by simp [mE] at h
  | .slc a lo hi, X, W, bo, xs, pos, ok, tk, ht, h => by simp [mE] at h
  | .call f es, X, W, bo, xs, pos, ok, tk, ht, h => by simp [mE] at h
  | .blt f es, X, W, bo, xs, pos, ok, tk, ht, h => by simp [mE] at h
  | .isi a t, X, W, bo, xs, pos, ok, tk, ht, h => by simp [mE] at h
  | .mth m o es, X, W, bo, xs, pos, ok, tk, ht, h => by cases m <;> cases es <;> simp [mE] at h
  | .lc elt tg it c vs, X, W, bo, xs, pos, ok, tk, ht, h => by simp [mE] at h
  | .not a, X, W, bo, xs, pos, ok, tk, ht, h => by simp [mE] at h
  | .cmp op a b, X, W, bo, xs, pos, ok, tk, ht, h => by simp [mE] at h
  | .chn o1 o2 a b c, X, W, bo, xs, pos, ok, tk, ht, h => by simp [mE] at h
  | .ite c a b, X, W, bo, xs, pos, ok, tk, ht, h => by simp [mE] at h
termination_by e => (sizeOf e, 1)
decreasing_by all_goals (first | decreasing_tactic | (simp_wf; omega) | (apply Prod.Lex.right; decide))
theorem es_ok : ∀ (e : Exs) (X : Cx) (W : WX) (x : List Expr), Ok p n X → Takes X W → mEs G X.N X.env.scope e x = true → PA X x (lEs X (callW p n) W e)
  | .nil, X, W, x, ok, tk, h => by
    cases x with
    | nil => exact s_nil
    | cons _ _ => simp [mEs] at h
  | .cons e es, X, W, x, ok, tk, h => by
    cases x with
    | nil => simp [mEs] at h
    | cons x l =>
      simp only [mEs, Bool.and_eq_true] at h
      exact s_cons (e_ok e X W x ok tk h.1) (es_ok es X W l ok tk h.2) (mE_pl h.1).1
termination_by e => (sizeOf e, 0)
decreasing_by all_goals (first | decreasing_tactic | (simp_wf; omega) | (apply Prod.Lex.right; decide))
theorem o_ok : ∀ (e : Oe) (X : Cx) (W : WX) (x : Option Expr), Ok p n X → Takes X W → mO G X.N X.env.scope e x = true → PO X x (lO X (callW p n) W e)
  | .no, X, W, x, ok, tk, h => by
    cases x with
    | none => exact s_no
    | some _ => simp [mO] at h
  | .yes e, X, W, x, ok, tk, h => by
    cases x with
    | none => simp [mO] at h
    | some x =>
      simp only [mO] at h
      exact s_yes (e_ok e X W x ok tk h)
termination_by e => (sizeOf e, 0)
decreasing_by all_goals (first | decreasing_tactic | (simp_wf; omega) | (apply Prod.Lex.right; decide))
theorem c_ok : ∀ (e : Oe) (X : Cx) (x : List Expr), Ok p n X → Takes X (fun _ _ _ _ => False) → mC G X.N X.env.scope e x = true → PTs X x (lC X (callW p n) e)
  | .no, X, x, ok, tk, h => by
    cases x with
    | nil => exact ⟨fun pins s σ H Q I ⟨ds, S, Kk, rl, rs, k, aft⟩ => pts_nil.run pins s σ H Q I (aft _ S H k Ext.refl rs)⟩
    | cons _ _ => simp [mC] at h
  | .yes e, X, x, ok, tk, h => by
    rcases x with _ | ⟨x, _ | ⟨y, l⟩⟩
    · simp [mC] at h
    · simp only [mC, Bool.and_eq_true] at h
      refine ⟨fun pins s σ H Q I ⟨ds, S, Kk, rl, rs, k, aft⟩ => (pts_one (t_ok e X _ x ok tk h.2 h.1)).run pins s σ H Q I ?_⟩
      exact ⟨ds, S, noX, _, rl, rs, k, fun d S1 H1 ⟨b, eb, k1⟩ e1 rs1 => ⟨b, eb, aft b S1 H1 k1 e1 rs1⟩, fun _ _ _ _ _ z => z.elim⟩
    · simp [mC] at h
termination_by e => (sizeOf e, 0)
decreasing_by all_goals (first | decreasing_tactic | (simp_wf; omega) | (apply Prod.Lex.right; decide))
theorem i_ok : ∀ (e : It) (X : Cx) (W : WX) (t x : Expr), Ok p n X → Takes X W → mI G X.N X.env.scope e t x = true → PI X t x (lI X (callW p n) W e)
  | .val e, X, W, t, x, ok, tk, h => by
    simp only [mI, Bool.and_eq_true] at h
    exact i_val (e_ok e X W x ok tk h.1)
  | .rg1 a, X, W, t, x, ok, tk, h => by
    cases x with
    | Call g l kw pos =>
      cases g with
      | Name g q =>
        rcases l with _ | ⟨x, _ | ⟨y, l⟩⟩ <;> rcases kw with _ | ⟨k, kw⟩ <;> first | (simp [mI] at h; done) | skip
        simp only [mI, Bool.and_eq_true, decide_eq_true_eq] at h
        obtain ⟨rfl, h1, h2⟩ := h
        exact i_rg1 ok h1 (e_ok a X W x ok tk h2) (mE_pl h2).1
      | _ => simp [mI] at h
    | _ => simp [mI] at h
  | .rg2 a b, X, W, t, x, ok, tk, h => by
    cases x with
    | Call g l kw pos =>
      cases g with
      | Name g q =>
        rcases l with _ | ⟨x, _ | ⟨y, _ | ⟨z, l⟩⟩⟩ <;> rcases kw with _ | ⟨k, kw⟩ <;> first | (simp [mI] at h; done) | skip
        simp only [mI, Bool.and_eq_true, decide_eq_true_eq] at h
        obtain ⟨rfl, h1, h2, h3⟩ := h
        exact i_rg2 ok h1 (e_ok a X W x ok tk h2) (e_ok b X W y ok tk h3) (mE_pl h2).1 (mE_pl h3).1
      | _ => simp [mI] at h
    | _ => simp [mI] at h
  | .rgd a b, X, W, t, x, ok, tk, h => by
    cases x with
    | Call g l kw pos =>
      cases g with
      | Name g q =>
        rcases l with _ | ⟨x, _ | ⟨y, _ | ⟨z, _ | ⟨z2, l⟩⟩⟩⟩ <;> rcases kw with _ | ⟨k, kw⟩ <;> first | (simp [mI] at h; done) | skip
        simp only [mI, Bool.and_eq_true, decide_eq_true_eq] at h
        obtain ⟨hz, rfl, h1, h2, h3⟩ := h
        cases z with
        | UnaryOp o z p1 =>
          cases o with
          | USub =>
            cases z with
            | Constant c j p2 =>
              cases c with
              | int v =>
                have hv : v = 1 := of_decide_eq_true hz
                subst hv
                exact i_rgd ok h1 (e_ok a X W x ok tk h2) (e_ok b X W y ok tk h3) (mE_pl h2).1 (mE_pl h3).1
              | _ => cases hz
            | _ => cases hz
          | _ => cases hz
        | _ => cases hz
      | _ => simp [mI] at h
    | _ => simp [mI] at h
  | .enum a, X, W, t, x, ok, tk, h => by
    cases t with
    | Tuple el kk tp =>
      cases x with
      | Call g l kw pos =>
        cases g with
        | Name g q =>
          rcases l with _ | ⟨x, _ | ⟨y, l⟩⟩ <;> rcases kw with _ | ⟨k, kw⟩ <;> first | (simp [mI] at h; done) | skip
          simp only [mI, Bool.and_eq_true, decide_eq_true_eq] at h
          obtain ⟨rfl, h1, h2⟩ := h
          exact i_enum ok h1 (e_ok a X W x ok tk h2) (mE_pl h2).1
        | _ => simp [mI] at h
      | _ => simp [mI] at h
    | _ => simp [mI] at h
  | .zip a b, X, W, t, x, ok, tk, h => by
    cases t with
    | Tuple el kk tp =>
      cases x with
      | Call g l kw pos =>
        cases g with
        | Name g q =>
          rcases l with _ | ⟨x, _ | ⟨y, _ | ⟨z, l⟩⟩⟩ <;> rcases kw with _ | ⟨k, kw⟩ <;> first | (simp [mI] at h; done) | skip
          simp only [mI, Bool.and_eq_true, decide_eq_true_eq] at h
          obtain ⟨rfl, h1, h2, h3⟩ := h
          exact i_zip ok h1 (e_ok a X W x ok tk h2) (e_ok b X W y ok tk h3) (mE_pl h2).1 (mE_pl h3).1
        | _ => simp [mI] at h
      | _ => simp [mI] at h
    | _ => simp [mI] at h
  | .rev a, X, W, t, x, ok, tk, h => by
    cases x with
    | Call g l kw pos =>
      cases g with
      | Name g q =>
        rcases l with _ | ⟨x, _ | ⟨y, l⟩⟩ <;> rcases kw with _ | ⟨k, kw⟩ <;> first | (simp [mI] at h; done) | skip
        simp only [mI, Bool.and_eq_true, decide_eq_true_eq] at h
        obtain ⟨rfl, h1, h2⟩ := h
        exact i_rev ok h1 (e_ok a X W x ok tk h2) (mE_pl h2).1
      | _ => simp [mI] at h
    | _ => simp [mI] at h
termination_by e => (sizeOf e, 0)
decreasing_by all_goals (first | decreasing_tactic | (simp_wf; omega) | (apply Prod.Lex.right; decide))
end
end
end Ev
set_option Elab.async false
set_option linter.all false
set_option maxRecDepth 100000
set_option maxHeartbeats 1000000
/-! EvC5: statements. -/
namespace Ev
open PySem PySem.Spec PyProof.Rows L2

/-! ### op= -/
def rAug (K : PySem.W.Frag) (op : Bop) : R2 := fun x y H Q => ∃ a b S Kk, RV K H a x ∧ RV K H b y ∧ RepS K S H ∧ augW op a b S Kk ∧ Aft K S H Kk Q
section
variable {X : Cx}
theorem imulX : OpR X (inplaceOp .Mult) (rI CMulX fun a b => .int (a * b)) := opI fun _ _ _ _ _ _ _ h k => imul_int k h.ok
theorem op_aug (op : Bop) : OpR X (inplaceOp (bopOf op)) (rAug X.K op) := by
  intro pins s σ H x y v u Q I rx ry ⟨a, b, S, Kk, ra, rb, rs, h, aft⟩
  cases ra with
  | int i =>
    cases rb with
    | int j =>
      obtain ⟨hp, h⟩ := h
      cases op with
      | add => exact iop_add pins s σ H _ _ v u Q I rx ry ⟨i, j, rfl, rfl, aft.self rs h (.int _)⟩
      | sub => exact iop_sub pins s σ H _ _ v u Q I rx ry ⟨i, j, rfl, rfl, aft.self rs h (.int _)⟩
      | mul => exact imulX pins s σ H _ _ v u Q I rx ry ⟨i, j, rfl, rfl, mulOk_ok h.1, aft.self rs h.2 (.int _)⟩
      | fdiv => exact iop_fdivW pins s σ H _ _ v u Q I rx ry ⟨i, j, rfl, rfl, h.1, aft.self rs h.2 (.int _)⟩
      | mod => exact iop_mod pins s σ H _ _ v u Q I rx ry ⟨i, j, rfl, rfl, h.1, aft.self rs h.2 (.int _)⟩
      | pow => exact absurd rfl hp
      | shl => exact iop_shl pins s σ H _ _ v u Q I rx ry ⟨i, j, rfl, rfl, h.1, aft.self rs h.2 (.int _)⟩
      | shr => exact iop_shr pins s σ H _ _ v u Q I rx ry ⟨i, j, rfl, rfl, h.1, aft.self rs h.2 (.int _)⟩
      | and => exact iop_and pins s σ H _ _ v u Q I rx ry ⟨i, j, rfl, rfl, aft.self rs h (by rw [band_eq]; exact .int _)⟩
      | or => exact iop_or pins s σ H _ _ v u Q I rx ry ⟨i, j, rfl, rfl, aft.self rs h (by rw [bor_eq]; exact .int _)⟩
      | xor => exact iop_xor pins s σ H _ _ v u Q I rx ry ⟨i, j, rfl, rfl, aft.self rs h (by rw [bxor_eq]; exact .int _)⟩
    | _ => exact h.elim
  | str z =>
    cases rb with
    | str t =>
      obtain ⟨rfl, hz, k⟩ := h
      exact iop_add_str pins s σ H _ _ v u Q I rx ry ⟨z, t, rfl, rfl, by rw [← line_eq]; exact hz, aft.self rs k (.str _)⟩
    | _ => exact h.elim
  | ref m =>
    cases rb with
    | ref n =>
      obtain ⟨rfl, l, r, hl, hr, hz, k⟩ := h
      obtain ⟨xs, hx, rl⟩ := lst_of rs hl
      obtain ⟨ys, hy, rr⟩ := lst_of rs hr
      exact iop_ext pins s σ H _ _ v u Q I rx ry ⟨m, n, xs, ys, rfl, rfl, hx, hy, by rw [← line_eq, ← rl.len, ← rr.len]; exact hz, aft.wrote rs hl hx k (rl.app rr) (.ref m)⟩
    | _ => exact h.elim
  | _ => exact h.elim
end

/-! ### which stores a tuple's assignment swaps -/
def isLc : Expr → Bool
  | .ListComp _ _ _ _ => true
  | .SetComp _ _ _ _ => true
  | .DictComp _ _ _ _ _ => true
  | _ => false
def isTupE : Expr → Bool
  | .Tuple _ _ _ => true
  | _ => false
theorem sw_no {v : Expr} (h : isLc v = false) (t : Option Expr) (l : Nat) (env : Env) : swapsWith v t l env = pure false := by
  cases v <;> first | rfl | cases h
theorem sw_sub {v o i : Expr} {q : Pos} (l : Nat) (env : Env) : swapsWith v (some (.Subscript o i q)) l env = pure false := by
  cases v <;> rfl
theorem ss_no {v : Expr} (h : isTupE v = false) (t : List Expr) (env : Env) : swappedStores t v env = pure none := by
  cases v with
  | Tuple _ _ _ => cases h
  | _ => rcases t with _ | ⟨t, _ | ⟨t2, t3⟩⟩ <;> first | rfl | (cases t <;> rfl)
def isNm : Expr → Bool
  | .Name _ _ => true
  | _ => false
theorem ss_nm {t v : Expr} (h : isNm t = true) (env : Env) : swappedStores [t] v env = pure none := by
  cases t <;> first | (cases h; done) | skip
  cases v <;> rfl
theorem ss_sub {o i v : Expr} {q : Pos} (env : Env) : swappedStores [.Subscript o i q] v env = pure none := by cases v <;> rfl
/-- the names stored -/
def swNames (sc : Scope) (ts : List Expr) : List Str := ts.filterMap fun
  | .Name id pos => if sc.names.lookup id == some .local && pos.line == (ts.head?.map (·.pos.line)).getD 0 then some id else none
  | _ => none
def swN (sc : Scope) (ts vs : List Expr) : Bool :=
  (!(ts.length == 2 || ts.length == 3) || vs.length != ts.length) || ((swNames sc ts).length != ts.length || (swNames sc ts).eraseDups.length != (swNames sc ts).length) || vs.all (foldedForSure 8)
theorem ss_eq {ts vs : List Expr} {k k2 : Nat} {p p2 : Pos} {env : Env} : swappedStores [.Tuple ts k p] (.Tuple vs k2 p2) env =
    (if (!(ts.length == 2 || ts.length == 3) || vs.length != ts.length || env.blockKind != .function) = true then pure none
    else if (vs.any fun | .Starred .. => true | _ => false) = true then pure none
    else if ((swNames env.scope ts).length != ts.length || (swNames env.scope ts).eraseDups.length != (swNames env.scope ts).length) = true then pure none
    else if vs.all (foldedForSure 8) = true then pure none
    else if vs.all (constantsAlone 8) = true then (do
      unsupported "assign.tuple-of-constant-expressions:order-of-the-stores"
      pure (some (swNames env.scope ts)))
    else pure (some (swNames env.scope ts))) := rfl
theorem ss_none {ts vs : List Expr} {k k2 : Nat} {p p2 : Pos} {env : Env} (h : swN env.scope ts vs = true) : swappedStores [.Tuple ts k p] (.Tuple vs k2 p2) env = pure none := by
  unfold swN at h
  rw [ss_eq]
  by_cases c1 : (!(ts.length == 2 || ts.length == 3) || vs.length != ts.length || env.blockKind != .function) = true
  · rw [if_pos c1]
  rw [if_neg c1]
  by_cases c2 : (vs.any fun | .Starred .. => true | _ => false) = true
  · rw [if_pos c2]
  rw [if_neg c2]
  rw [Bool.or_eq_true, Bool.or_eq_true] at h
  rcases h with (h | h) | h
  · rw [h] at c1
    exact absurd rfl c1
  · rw [if_pos h]
  · rw [if_pos h, ite_self]
def swS (sc : Scope) (ts vs : List Expr) (ns : List Str) : Bool :=
  (match sc.kind with | .function => true | _ => false) && ((ts.length == 2 || ts.length == 3) && ((vs.length == ts.length) && ((vs.all fun e => !isStar e) && (decide (swNames sc ts = ns) && (ns.length == ts.length && (ns.eraseDups.length == ns.length && (!vs.all (foldedForSure 8) && !vs.all (constantsAlone 8))))))))
theorem ss_some {ts vs : List Expr} {k k2 : Nat} {p p2 : Pos} {env : Env} {ns : List Str} (h : swS env.scope ts vs ns = true) : swappedStores [.Tuple ts k p] (.Tuple vs k2 p2) env = pure (some ns) := by
  unfold swS at h
  simp only [Bool.and_eq_true, decide_eq_true_eq, Bool.not_eq_true'] at h
  obtain ⟨hk, h1, h2, h3, hn, h4, h5, h6, h7⟩ := h
  have hb : env.blockKind = .function := by
    unfold Env.blockKind
    cases e : env.scope.kind <;> rw [e] at hk <;> first | rfl | cases hk
  have h4' := eq_of_beq h4
  have h5' := eq_of_beq h5
  rw [ss_eq, if_neg (by rw [hb, h1, eq_of_beq h2]; simp), if_neg (by
    intro c
    rw [List.any_eq_true] at c
    obtain ⟨e, he, c⟩ := c
    have q := List.all_eq_true.1 h3 e he
    cases e <;> first | (cases c; done) | (cases q; done)), hn, if_neg (by rw [h4', ← h4', h5']; simp), if_neg (by rw [h6]; decide), if_neg (by rw [h7]; decide)]
end Ev
set_option Elab.async false
set_option linter.all false
set_option maxRecDepth 100000
set_option maxHeartbeats 1000000
/-! EvC6: statements, one by one and together. -/
namespace Ev
open PySem PySem.Spec PyProof.Rows L2

/-! ### the match -/
def fnB (sc : Scope) : Bool := match sc.kind with
  | .function => true
  | _ => false
/-- x = [..], the store folded into the comprehension; or not -/
def lcYes (sc : Scope) (x : Str) (px : Pos) : Expr → Bool
  | .ListComp _ _ s p => fnB sc && (decide (sc.names.lookup x = some .local) && ((px.line == p.line) && !(s.names.any fun (n, k) => n == x && (k == .local || k == .cell))))
  | _ => false
def lcNo (sc : Scope) (x : Str) (px : Pos) : Expr → Bool
  | .ListComp _ _ s p => !(sc.names.lookup x == some .local && px.line == p.line && !(s.names.any fun (n, k) => n == x && (k == .local || k == .cell)))
  | .SetComp _ _ _ _ => false
  | .DictComp _ _ _ _ _ => false
  | _ => true
def par2 (N : List Str) (sc : Scope) : Tgs → List Expr → List Expr → Bool
  | .cons (.nm i) (.cons (.nm j) .nil), [.Name x px, .Name y py], vs => decide (i ≠ j) && (decide (sc.names.lookup x = some .local) && (decide (sc.names.lookup y = some .local) && swS sc [.Name x px, .Name y py] vs [x, y]))
  | .cons (.nm i) (.cons (.nm j) (.cons (.nm l) .nil)), [.Name x px, .Name y py, .Name z pz], vs => decide (i ≠ j ∧ i ≠ l ∧ j ≠ l) && (decide (sc.names.lookup x = some .local) && (decide (sc.names.lookup y = some .local) && (decide (sc.names.lookup z = some .local) && swS sc [.Name x px, .Name y py, .Name z pz] vs [x, y, z])))
  | _, _, _ => false
def mA (G N : List Str) (sc : Scope) (ts : Tgs) (l : List Expr) : Ex → Expr → Bool
  | .tup es, .Tuple vs _ _ => mEs G N sc es vs && (swN sc l vs || par2 N sc ts l vs)
  | e, v => !isTupE v && (!isLc v && mE G N sc e v)
mutual
def mS (G N : List Str) (sc : Scope) : Sx → Stmt → Bool
  | .asg (.tg (.nm i)) e, .Assign [.Name x px] v _ => mE G N sc e v && (decide (N[i]? = some x) && (locB sc x && (lcNo sc x px v || lcYes sc x px v)))
  | .asg (.tg (.tp ts)) e, .Assign [.Tuple l _ _] v _ => mTs N sc ts l && mA G N sc ts l e v
  | .asg (.sub a i) e, .Assign [.Subscript x y _] v _ => mE G N sc a x && (mE G N sc i y && mE G N sc e v)
  | .aug i op e, .AugAssign (.Name x _) o v _ => decide (o = bopOf op) && (decide (N[i]? = some x) && (locB sc x && mE G N sc e v))
  | .augs a i op e, .AugAssign (.Subscript x y _) o v _ => decide (o = bopOf op) && (mE G N sc a x && (mE G N sc i y && mE G N sc e v))
  | .exp e, .Expr v _ => !isLc v && mE G N sc e v
  | .ret e, .Return (some v) _ => mE G N sc e v
  | .retn, .Return none _ => true
  | .iff c a b, .If x l r _ => tstB c && (mE G N sc c x && (mSs G N sc a l && mSs G N sc b r))
  | .whl c b, .While x l [] _ => tstB c && (mE G N sc c x && mSs G N sc b l)
  | .for tg it b, .For t x l [] _ => mI G N sc it t x && (mT N sc tg t && mSs G N sc b l)
  | .brk, .Break _ => true
  | .cnt, .Continue _ => true
  | .pss, .Pass _ => true
  | _, _ => false
def mSs (G N : List Str) (sc : Scope) : Sxs → List Stmt → Bool
  | .nil, [] => true
  | .cons s ss, x :: l => mS G N sc s x && mSs G N sc ss l
  | _, _ => false
end

/-! ### readings -/
structure KsR (X : Cx) (W : WX) (D : Ks) (E : Ends) (S0 : Sto) (H0 : Hp) : Prop where
  nx : ∀ ds S σ H, D.nx ds S → RL X.K H ds σ → RepS X.K S H → Ext S0 H0 S H → E.nx σ H
  rt : ∀ d S v H, D.rt d S → RV X.K H d v → RepS X.K S H → Ext S0 H0 S H → E.rt v H
  bk : ∀ ds S σ H, D.bk ds S → RL X.K H ds σ → RepS X.K S H → Ext S0 H0 S H → E.bk σ H
  ct : ∀ ds S σ H, D.ct ds S → RL X.K H ds σ → RepS X.K S H → Ext S0 H0 S H → E.ct σ H
  ex : ∀ x ds S cls dd σ H, D.ex x ds S → RL X.K H ds σ → RepS X.K S H → Ext S0 H0 S H → RX X.K X.mg H x cls dd → W cls dd σ H
section
variable {X : Cx} {C : CallT} {W : WX} {D : Ks} {E : Ends} {S0 S1 : Sto} {H0 H1 : Hp}
theorem KsR.go (r : KsR X W D E S0 H0) (e : Ext S0 H0 S1 H1) : KsR X W D E S1 H1 :=
  ⟨fun ds S σ H h a b c => r.nx ds S σ H h a b (e.trans c), fun d S v H h a b c => r.rt d S v H h a b (e.trans c), fun ds S σ H h a b c => r.bk ds S σ H h a b (e.trans c), fun ds S σ H h a b c => r.ct ds S σ H h a b (e.trans c),
   fun x ds S cls dd σ H h a b c d => r.ex x ds S cls dd σ H h a b (e.trans c) d⟩
theorem KsR.xk (r : KsR X W D E S0 H0) (rs : RepS X.K S0 H0) {ds : Loc} {σ : L2.St} (rl : RL X.K H0 ds σ) : XKs X W σ S0 H0 (D.at ds) := fun x S' cls dd H' h e rs' rx => r.ex x ds S' cls dd σ H' h (rl.mono (e.stay rs)) rs' e rx
end
def lS (X : Cx) (C : CallT) (W : WX) (s : Sx) : TS := fun E σ H => ∃ ds S D, RL X.K H ds σ ∧ RepS X.K S H ∧ sxW C s ds S D ∧ KsR X W D E S H
def lSs (X : Cx) (C : CallT) (W : WX) (s : Sxs) : TS := fun E σ H => ∃ ds S D, RL X.K H ds σ ∧ RepS X.K S H ∧ sxsW C s ds S D ∧ KsR X W D E S H
theorem _root_.L2.PS.imp {X : Cx} {s : Stmt} {t t' : TS} (h : PS X s t) (hi : ∀ E σ H, t' E σ H → t E σ H) : PS X s t' := ⟨fun pins s σ H E I w => h.run pins s σ H E I (hi E σ H w)⟩
theorem _root_.L2.PSs.imp {X : Cx} {s : List Stmt} {t t' : TS} (h : PSs X s t) (hi : ∀ E σ H, t' E σ H → t E σ H) : PSs X s t' := ⟨fun pins s σ H E I w => h.run pins s σ H E I (hi E σ H w)⟩
structure OkS (p : Prog) (n : Nat) (X : Cx) (W : WX) : Prop where
  ok : Ok p n X
  tk : Takes X W
  lo : LocOk X X.env.scope
  po : PassesOwn (model X.prog X.w) X.A X.env X.xe
section
variable {X : Cx} {C : CallT} {W : WX} {p : Prog} {n : Nat} {G : List Str} {x y z : Expr} {pos : Pos}
theorem lcNo_sw {sc : Scope} {nm : Str} {px : Pos} {v : Expr} {env : Env} (he : env.scope = sc) (h : lcNo sc nm px v = true) (l : Nat) : swapsWith v (some (.Name nm px)) l env = pure false := by
  subst he
  cases v with
  | ListComp el gs s q =>
    have h' : (env.scope.names.lookup nm == some .local && px.line == q.line && !(s.names.any fun (n, k) => n == nm && (k == .local || k == .cell))) = false := by
      unfold lcNo at h
      rwa [Bool.not_eq_true'] at h
    show (pure (env.blockKind == .function && env.scope.names.lookup nm == some .local && px.line == q.line && !(s.names.any fun (n, k) => n == nm && (k == .local || k == .cell))) : Sem Bool) = pure false
    congr 1
    cases hb : (env.blockKind == ScopeKind.function) with
    | false => rfl
    | true => rw [Bool.true_and]; exact h'
  | SetComp _ _ _ _ => cases h
  | DictComp _ _ _ _ _ => cases h
  | _ => rfl
theorem st_asg {t : Tg} {e : Ex} (he : PE X x (lE X C W e)) (hg : PG X y (lG X.K t)) (hs : swapsWithSole [y] x pos.line X.env = pure false) (hw : swappedStores [y] x X.env = pure none) (ha : (assignEach [y] X.env).map (·.2) = [assign y X.env]) :
    PS X (.Assign [y] x pos) (lS X C W (.asg (.tg t) e)) := by
  refine (ps_asg he hg hs hw ha).imp fun E σ H ⟨ds, S, D, rl, rs, k, kr⟩ => ?_
  refine ⟨ds, S, D.at ds, _, rl, rs, k, fun d S1 v H1 k1 e1 rs1 rv => ?_, kr.xk rs rl⟩
  exact ⟨ds, d, _, rl.mono (e1.stay rs), rv, k1, fun ds' σ' k2 rl2 _ => kr.nx ds' S1 σ' H1 k2 rl2 rs1 e1⟩
theorem st_set {i : Nat} {nm : Str} {e : Ex} {px : Pos} (ok : OkS p n X W) (he : PE X x (lE X C W e)) (hN : X.N[i]? = some nm) (hl : locB X.env.scope nm = true) (hs : lcNo X.env.scope nm px x = true) : PS X (.Assign [.Name nm px] x pos) (lS X C W (.asg (.tg (.nm i)) e)) :=
  st_asg he (g_nm ok.ok ok.lo hN hl) (lcNo_sw rfl hs pos.line) (ss_nm rfl _) rfl
/-- x = [.. for ..] with the store folded in -/
theorem st_setL {i : Nat} {nm : Str} {px : Pos} {elt : Ex} {tg : Tg} {it : It} {c : Oe} {vs : List Nat} (hG : ∀ f ∈ G, ∃ d, p f = some d) (ok : OkS p n X W) (h : mE G X.N X.env.scope (.lc elt tg it c vs) x = true) (hN : X.N[i]? = some nm) (hs : lcYes X.env.scope nm px x = true) :
    PS X (.Assign [.Name nm px] x pos) (lS X (callW p n) W (.asg (.tg (.nm i)) (.lc elt tg it c vs))) := by
  cases x with
  | ListComp x gs s q =>
    unfold lcYes at hs
    simp only [Bool.and_eq_true, decide_eq_true_eq, Bool.not_eq_true'] at hs
    obtain ⟨hk, hloc, hline, hown⟩ := hs
    have hk' : X.env.scope.kind = .function := by
      unfold fnB at hk
      split at hk <;> first | assumption | cases hk
    rcases gs with _ | ⟨⟨t, i', cs, a⟩, _ | ⟨g2, gs⟩⟩
    · simp [mE] at h
    · cases a with
      | ofNat a =>
        cases a with
        | succ a => unfold mE at h; split at h <;> first | (cases h; done) | (rename_i e; cases e; done)
        | zero =>
          have h : mE G X.N X.env.scope (.lc elt tg it c vs) (.ListComp x [⟨t, i', cs, 0⟩] s q) = true := h
          simp only [mE, Bool.and_eq_true] at h
          obtain ⟨h1, h2, h3, h4, h5, h6⟩ := h
          have own : (ownOf X.N vs).map (fun x => x.2) = vs := by unfold ownOf; rw [List.map_map]; exact List.map_id _
          have hv := tgs_all h2
          have r := ps_setLc (g := lG X.K tg) (tt := lC X (callW p n) c) (te := lE X (callW p n) (fun _ _ _ _ => False) elt) (spos := pos) (py := px) ok.ok.calm ok.ok.nd hN hloc (sw_true hk' hloc hline hown) (i_ok hG it X W t i' ok.ok ok.tk h3) (blkOk_by h1)
            (fun s' H A cl fp => g_ok (ok.ok.blk s' H s _ fp) loc_blk tg t h4)
            (fun s' H A cl fp => c_ok hG c (X.blk s' H s (compEnvC s cl A X.env) fp) cs (ok.ok.blk s' H s _ fp) takes0 h5)
            (fun s' H A cl fp => e_ok hG elt (X.blk s' H s (compEnvC s cl A X.env) fp) _ x (ok.ok.blk s' H s _ fp) takes0 h6) (pos := q) (mI_fold h3 X.env)
          rw [own] at r
          refine r.imp fun E σ H ⟨ds, S, D, rl, rs, k, kr⟩ => ?_
          have aft : Aft X.K S H (fun d S1 => D.nx (ds.set i (some d)) S1) (fun v H1 => gName i v σ H1 E.nx) := fun d S1 v H1 k1 e1 rs1 rv => kr.nx _ S1 _ H1 k1 ((rl.mono (e1.stay rs)).set i rv) rs1 e1
          exact ⟨ds, S, D.at ds, _, rl, rs, k, fun l chk S1 J H1 k1 e1 rs1 io => tLc_ok rl rs e1 rs1 hv io aft k1, kr.xk rs rl⟩
      | negSucc a => simp [mE] at h
    · simp [mE] at h
  | _ => simp [lcYes] at hs
theorem st_par2 {i j : Nat} {nx ny : Str} {es : Exs} {px py pt pt2 : Pos} {kt k2 : Nat} (ok : OkS p n X W) (ha : PA X [x, y] (lEs X C W es)) (hi : X.N[i]? = some nx) (hj : X.N[j]? = some ny)
    (h : par2 X.N X.env.scope (.cons (.nm i) (.cons (.nm j) .nil)) [.Name nx px, .Name ny py] [x, y] = true) :
    PS X (.Assign [.Tuple [.Name nx px, .Name ny py] kt pt] (.Tuple [x, y] k2 pt2) pos) (lS X C W (.asg (.tg (.tp (.cons (.nm i) (.cons (.nm j) .nil)))) (.tup es))) := by
  simp only [par2, Bool.and_eq_true, decide_eq_true_eq] at h
  obtain ⟨hij, h1, h2, h3⟩ := h
  refine (ps_par ok.ok.calm ok.ok.nd hi hj hij h1 h2 ha (ss_some h3)).imp fun E σ H ⟨ds, S, DD, rl, rs, k, kr⟩ => ?_
  refine ⟨ds, S, DD.at ds, _, rl, rs, k, fun l S1 vs H1 ⟨_, k1⟩ e1 rs1 rvs => ?_, kr.xk rs rl⟩
  cases rvs with
  | nil => exact k1.elim
  | cons r1 r =>
    cases r with
    | nil => exact k1.elim
    | cons r2 r =>
      cases r with
      | nil => exact ⟨_, _, rfl, kr.nx _ S1 _ H1 k1 (((rl.mono (e1.stay rs)).set i r1).set j r2) rs1 e1⟩
      | cons _ _ => exact k1.elim
theorem st_par3 {i j l : Nat} {nx ny nz : Str} {es : Exs} {px py pz pt pt2 : Pos} {kt k2 : Nat} (ok : OkS p n X W) (ha : PA X [x, y, z] (lEs X C W es)) (hi : X.N[i]? = some nx) (hj : X.N[j]? = some ny) (hl : X.N[l]? = some nz)
    (h : par2 X.N X.env.scope (.cons (.nm i) (.cons (.nm j) (.cons (.nm l) .nil))) [.Name nx px, .Name ny py, .Name nz pz] [x, y, z] = true) :
    PS X (.Assign [.Tuple [.Name nx px, .Name ny py, .Name nz pz] kt pt] (.Tuple [x, y, z] k2 pt2) pos) (lS X C W (.asg (.tg (.tp (.cons (.nm i) (.cons (.nm j) (.cons (.nm l) .nil))))) (.tup es))) := by
  simp only [par2, Bool.and_eq_true, decide_eq_true_eq] at h
  obtain ⟨⟨h1, h2, h3⟩, h4, h5, h6, h7⟩ := h
  refine (ps_par3 ok.ok.calm ok.ok.nd hi hj hl h1 h2 h3 h4 h5 h6 ha (ss_some h7)).imp fun E σ H ⟨ds, S, DD, rl, rs, k, kr⟩ => ?_
  refine ⟨ds, S, DD.at ds, _, rl, rs, k, fun l' S1 vs H1 ⟨_, k1⟩ e1 rs1 rvs => ?_, kr.xk rs rl⟩
  cases rvs with
  | nil => exact k1.elim
  | cons r1 r =>
    cases r with
    | nil => exact k1.elim
    | cons r2 r =>
      cases r with
      | nil => exact k1.elim
      | cons r3 r =>
        cases r with
        | nil => exact ⟨_, _, _, rfl, kr.nx _ S1 _ H1 k1 ((((rl.mono (e1.stay rs)).set i r1).set j r2).set l r3) rs1 e1⟩
        | cons _ _ => exact k1.elim
theorem st_sub {a i e : Ex} {q : Pos} (ok : OkS p n X W) (ho : PE X x (lE X C W a)) (hi : PE X y (lE X C W i)) (he : PE X z (lE X C W e)) (hs : isSl y = false) : PS X (.Assign [.Subscript x y q] z pos) (lS X C W (.asg (.sub a i) e)) := by
  refine (ps_asg he (pg_sub ho hi (set_any ok.ok.hu) (fun v => by cases y <;> first | rfl | cases hs)) (sw_sub (o := x) (i := y) (q := q) pos.line X.env) (ss_sub (o := x) (i := y) (q := q) X.env) rfl).imp fun E σ H ⟨ds, S, DD, rl, rs, k, kr⟩ => ?_
  refine ⟨ds, S, DD.at ds, _, rl, rs, k, fun d S1 v H1 k1 e1 rs1 rv => ?_, kr.xk rs rl⟩
  refine s_two (R := fun o i H2 => rSub X.K o i v H2 _) (rl.mono (e1.stay rs)) rs1 k1 ((kr.xk rs rl).go e1) fun o k S2 ov kv H2 k2 e2 rs2 r1 r2 => ?_
  refine ⟨o, k, d, S2, _, r1, r2, rv.mono (e2.stay rs1), rs2, k2, fun S3 H3 k3 e3 rs3 => ?_⟩
  exact kr.nx ds S3 σ H3 k3 (rl.mono (((e1.trans e2).trans e3).stay rs)) rs3 ((e1.trans e2).trans e3)
theorem st_aug {i : Nat} {nm : Str} {op : Bop} {e : Ex} {q : Pos} (ok : OkS p n X W) (he : PE X x (lE X C W e)) (hN : X.N[i]? = some nm) (hl : locB X.env.scope nm = true) : PS X (.AugAssign (.Name nm q) (bopOf op) x pos) (lS X C W (.aug i op e)) := by
  refine (ps_aug ok.ok.nd hN (ok.lo nm hl).1 he (op_aug op) (ok.lo nm hl).2).imp fun E σ H ⟨ds, S, DD, rl, rs, ⟨d, ed, k⟩, kr⟩ => ?_
  obtain ⟨v, ev, rv⟩ := rl.2 i d ed
  refine ⟨v, ev, ds, S, DD.at ds, _, rl, rs, k, fun f S1 w H1 k1 e1 rs1 rw' => ?_, kr.xk rs rl⟩
  refine ⟨d, f, S1, _, rv.mono (e1.stay rs), rw', rs1, k1, fun g S2 u H2 k2 e2 rs2 ru => ?_⟩
  exact kr.nx _ S2 _ H2 k2 ((rl.mono ((e1.trans e2).stay rs)).set i ru) rs2 (e1.trans e2)
theorem st_augs {a i e : Ex} {op : Bop} {q : Pos} (ok : OkS p n X W) (ho : PE X x (lE X C W a)) (hi : PE X y (lE X C W i)) (he : PE X z (lE X C W e)) (hs : isSl y = false) : PS X (.AugAssign (.Subscript x y q) (bopOf op) z pos) (lS X C W (.augs a i op e)) := by
  refine (ps_augS ho hi (get_any ok.ok.hu) he (op_aug op) (set_any ok.ok.hu) (fun _ _ _ => by cases y <;> first | rfl | cases hs)).imp fun E σ H ⟨ds, S, DD, rl, rs, k, kr⟩ => ?_
  refine s_two (R := fun o i H2 => rIdx X.K o i H2 _) rl rs k (kr.xk rs rl) fun o k S2 ov kv H2 k2 e2 rs2 r1 r2 => ?_
  refine ⟨o, k, S2, _, r1, r2, rs2, k2, fun d v k3 rv => ?_⟩
  refine ⟨ds, S2, DD.at ds, _, rl.mono (e2.stay rs), rs2, k3, fun f S3 w H3 k4 e3 rs3 rw' => ?_, (kr.xk rs rl).go e2⟩
  refine ⟨d, f, S3, _, rv.mono (e3.stay rs2), rw', rs3, k4, fun g S4 u H4 k5 e4 rs4 ru => ?_⟩
  have st := (e3.trans e4).stay rs2
  refine ⟨o, k, g, S4, _, r1.mono st, r2.mono st, ru, rs4, k5, fun S5 H5 k6 e5 rs5 => ?_⟩
  have ee := ((e2.trans e3).trans e4).trans e5
  exact kr.nx ds S5 σ H5 k6 (rl.mono (ee.stay rs)) rs5 ee
theorem st_exp {e : Ex} (he : PE X x (lE X C W e)) (hs : isLc x = false) : PS X (.Expr x pos) (lS X C W (.exp e)) := by
  refine (ps_expr he (sw_no hs _ _ _)).imp fun E σ H ⟨ds, S, DD, rl, rs, k, kr⟩ => ?_
  exact ⟨ds, S, DD.at ds, _, rl, rs, k, fun d S1 v H1 k1 e1 rs1 rv => kr.nx ds S1 σ H1 k1 (rl.mono (e1.stay rs)) rs1 e1, kr.xk rs rl⟩
theorem st_ret {e : Ex} (he : PE X x (lE X C W e)) : PS X (.Return (some x) pos) (lS X C W (.ret e)) := by
  refine (ps_ret he).imp fun E σ H ⟨ds, S, DD, rl, rs, k, kr⟩ => ?_
  exact ⟨ds, S, DD.at ds, _, rl, rs, k, fun d S1 v H1 k1 e1 rs1 rv => kr.rt d S1 v H1 k1 rv rs1 e1, kr.xk rs rl⟩
theorem st_retn : PS X (.Return none pos) (lS X C W .retn) := ps_retN.imp fun E σ H ⟨ds, S, DD, rl, rs, k, kr⟩ => kr.rt _ S _ H k .non rs Ext.refl
theorem st_brk : PS X (.Break pos) (lS X C W .brk) := ps_break.imp fun E σ H ⟨ds, S, DD, rl, rs, k, kr⟩ => kr.bk ds S σ H k rl rs Ext.refl
theorem st_cnt : PS X (.Continue pos) (lS X C W .cnt) := ps_continue.imp fun E σ H ⟨ds, S, DD, rl, rs, k, kr⟩ => kr.ct ds S σ H k rl rs Ext.refl
theorem st_pss : PS X (.Pass pos) (lS X C W .pss) := ps_pass.imp fun E σ H ⟨ds, S, DD, rl, rs, k, kr⟩ => kr.nx ds S σ H k rl rs Ext.refl
theorem st_iff {c : Ex} {a b : Sxs} {l r : List Stmt} (hc : PT X x (lT X C W c)) (ha : PSs X l (lSs X C W a)) (hb : PSs X r (lSs X C W b)) : PS X (.If x l r pos) (lS X C W (.iff c a b)) := by
  refine (ps_if hc ha hb).imp fun E σ H ⟨ds, S, DD, rl, rs, k, kr⟩ => ?_
  refine ⟨ds, S, DD.at ds, _, rl, rs, k, fun d S1 H1 ⟨t, et, k1⟩ e1 rs1 => ⟨t, et, ?_⟩, kr.xk rs rl⟩
  cases t with
  | true =>
    rw [if_pos rfl] at k1 ⊢
    exact ⟨ds, S1, DD, rl.mono (e1.stay rs), rs1, k1, kr.go e1⟩
  | false =>
    rw [if_neg Bool.false_ne_true] at k1 ⊢
    exact ⟨ds, S1, DD, rl.mono (e1.stay rs), rs1, k1, kr.go e1⟩
theorem st_whl {c : Ex} {b : Sxs} {l : List Stmt} (ok : OkS p n X W) (hc : PT X x (lT X C W c)) (hb : PSs X l (lSs X C W b)) : PS X (.While x l [] pos) (lS X C W (.whl c b)) := by
  refine (ps_while ok.po hc hb).imp fun E σ H ⟨ds, S, DD, rl, rs, ⟨Wd, ⟨m, h0⟩, step⟩, kr⟩ => ?_
  refine ⟨fun m σ' H' => ∃ ds' S', RL X.K H' ds' σ' ∧ RepS X.K S' H' ∧ Ext S H S' H' ∧ Wd m ds' S', ⟨m, ds, S, rl, rs, Ext.refl, h0⟩, ?_⟩
  rintro m σ1 H1 ⟨ds1, S1, rl1, rs1, e1, h1⟩
  refine ⟨ds1, S1, DD.at ds1, _, rl1, rs1, step m ds1 S1 h1, fun d S2 H2 ⟨t, et, k2⟩ e2 rs2 => ⟨t, et, ?_⟩, (kr.go e1).xk rs1 rl1⟩
  cases t with
  | false =>
    rw [if_neg Bool.false_ne_true] at k2 ⊢
    exact kr.nx ds1 S2 σ1 H2 k2 (rl1.mono (e2.stay rs1)) rs2 (e1.trans e2)
  | true =>
    rw [if_pos rfl] at k2 ⊢
    refine ⟨fun σ' H' => ∃ m', m' < m ∧ ∃ ds' S', RL X.K H' ds' σ' ∧ RepS X.K S' H' ∧ Ext S H S' H' ∧ Wd m' ds' S', fun σ' H' h => h, ds1, S2, _, rl1.mono (e2.stay rs1), rs2, k2, ?_⟩
    have ee := e1.trans e2
    exact ⟨fun ds S σ H ⟨m', hm, hw⟩ a b e => ⟨m', hm, ds, S, a, b, ee.trans e, hw⟩, (kr.go ee).rt, fun ds S σ H h a b e => kr.nx ds S σ H h a b (ee.trans e), fun ds S σ H ⟨m', hm, hw⟩ a b e => ⟨m', hm, ds, S, a, b, ee.trans e, hw⟩, (kr.go ee).ex⟩
theorem st_for {tg : Tg} {it : It} {b : Sxs} {l : List Stmt} (ok : OkS p n X W) (hi : PI X x y (lI X C W it)) (hg : PG X x (lG X.K tg)) (hb : PSs X l (lSs X C W b)) (hf : ∀ v, foldedSetIterable y X.env v = pure v) : PS X (.For x y l [] pos) (lS X C W (.for tg it b)) := by
  refine (ps_for ok.po ok.ok.calm hi hg hb hf).imp fun E σ H ⟨ds, S, DD, rl, rs, k, kr⟩ => ?_
  refine ⟨ds, S, DD.at ds, _, rl, rs, k, fun li chk S1 J H1 k1 e1 rs1 io => ?_, kr.xk rs rl⟩
  let body : D → Loc → Sto → (Loc → Sto → Prop) → Prop := fun d σ S K => tgW tg d σ fun σ' => sxsW C b σ' S { DD with nx := K, ct := K, bk := DD.nx }
  have k1 : forW chk body li ds S1 DD.nx := k1
  let Pv : Nat → L2.St → Hp → Prop := fun i σ' H' => ∃ ds' S', RL X.K H' ds' σ' ∧ RepS X.K S' H' ∧ Ext S1 H1 S' H' ∧ forW chk body (li.drop i) ds' S' DD.nx
  refine ⟨fun i m σ' H' => m = li.length - i ∧ i ≤ li.length ∧ Pv i σ' H', ⟨li.length, by simp, Nat.zero_le _, ds, S1, rl.mono (e1.stay rs), rs1, Ext.refl, by rw [List.drop_zero]; exact k1⟩, ?_⟩
  rintro i m σ2 H2 ⟨rfl, hi, ds2, S2, rl2, rs2, e2, k2⟩
  by_cases hlt : i < li.length
  · rw [List.drop_eq_getElem_cons hlt] at k2
    obtain ⟨hc, k2⟩ := k2
    refine .inr ⟨io.go i S2 H2 hlt rs2 hc e2, Pv (i + 1), fun σ' H' h => ⟨li.length - (i + 1), by omega, rfl, hlt, h⟩, fun v H3 yv => ?_⟩
    obtain ⟨d, ed, rd, e3, rs3⟩ := io.yld i S2 H2 v H3 hlt rs2 hc e2 yv
    rw [List.getElem?_eq_getElem hlt] at ed
    cases ed
    refine ⟨ds2, _, _, rl2.mono (e3.stay rs2), rd, k2, fun ds3 σ3 k3 rl3 _ => ?_⟩
    refine ⟨ds3, S2, _, rl3, rs3, k3, ?_⟩
    have ee := e2.trans e3
    have e0 := e1.trans ee
    exact ⟨fun ds S σ H h a b e => ⟨ds, S, a, b, ee.trans e, h⟩, (kr.go e0).rt, (kr.go e0).nx, fun ds S σ H h a b e => ⟨ds, S, a, b, ee.trans e, h⟩, (kr.go e0).ex⟩
  · have ei : i = li.length := by omega
    subst ei
    rw [List.drop_length] at k2
    obtain ⟨hc, k2⟩ := k2
    exact .inl ⟨io.stop S2 H2 rs2 hc e2, kr.nx ds2 S2 σ2 H2 k2 rl2 rs2 (e1.trans e2)⟩
theorem st_nil : PSs X [] (lSs X C W .nil) := pss_nil.imp fun E σ H ⟨ds, S, DD, rl, rs, k, kr⟩ => kr.nx ds S σ H k rl rs Ext.refl
theorem st_cons {s : Sx} {ss : Sxs} {a : Stmt} {r : List Stmt} (h1 : PS X a (lS X C W s)) (h2 : PSs X r (lSs X C W ss)) : PSs X (a :: r) (lSs X C W (.cons s ss)) := by
  refine (pss_cons h1 h2).imp fun E σ H ⟨ds, S, DD, rl, rs, k, kr⟩ => ?_
  exact ⟨ds, S, _, rl, rs, k, fun ds1 S1 σ1 H1 k1 rl1 rs1 e1 => ⟨ds1, S1, DD, rl1, rs1, k1, kr.go e1⟩, kr.rt, kr.bk, kr.ct, kr.ex⟩
end
section
variable {p : Prog} {n : Nat} {G : List Str} (hG : ∀ f ∈ G, ∃ d, p f = some d)
include hG
theorem mA_ok {X : Cx} {W : WX} {ts : Tgs} {l : List Expr} {e : Ex} {v : Expr} {kt : Nat} {pt pos : Pos} (ok : OkS p n X W) (ht : mTs X.N X.env.scope ts l = true) (h : mA G X.N X.env.scope ts l e v = true) : PS X (.Assign [.Tuple l kt pt] v pos) (lS X (callW p n) W (.asg (.tg (.tp ts)) e)) := by
  have hg : PG X (.Tuple l kt pt) (lG X.K (.tp ts)) := g_ok ok.ok ok.lo (.tp ts) _ (by simpa [mT] using ht)
  have old : isTupE v = false → isLc v = false → mE G X.N X.env.scope e v = true → PS X (.Assign [.Tuple l kt pt] v pos) (lS X (callW p n) W (.asg (.tg (.tp ts)) e)) := fun h1 h2 h3 =>
    st_asg (e_ok hG e X W v ok.ok ok.tk h3) hg (show swapsWith v (some (.Tuple l kt pt)) pos.line X.env = pure false from sw_no h2 _ _ _) (ss_no h1 _ _) rfl
  have gen : ((!isTupE v) && ((!isLc v) && mE G X.N X.env.scope e v)) = true → PS X (.Assign [.Tuple l kt pt] v pos) (lS X (callW p n) W (.asg (.tg (.tp ts)) e)) := fun h => by
    simp only [Bool.and_eq_true, Bool.not_eq_true'] at h
    exact old h.1 h.2.1 h.2.2
  cases v with
  | Tuple vs k2 p2 =>
    cases e with
    | tup es =>
      simp only [mA, Bool.and_eq_true, Bool.or_eq_true] at h
      obtain ⟨h1, h2⟩ := h
      have he : PE X (.Tuple vs k2 p2) (lE X (callW p n) W (.tup es)) := s_tup (es_ok hG es X W vs ok.ok ok.tk h1)
      rcases h2 with h2 | h2
      · exact st_asg he hg rfl (ss_none h2) rfl
      · have ha := es_ok hG es X W vs ok.ok ok.tk h1
        unfold par2 at h2
        split at h2
        · rename_i i j x px y py vs'
          have hl := h2
          simp only [Bool.and_eq_true, decide_eq_true_eq] at h2
          obtain ⟨_, _, _, h3⟩ := h2
          unfold swS at h3
          simp only [Bool.and_eq_true, decide_eq_true_eq] at h3
          have len := eq_of_beq h3.2.2.1
          simp only [mTs, mT, Bool.and_eq_true, decide_eq_true_eq] at ht
          rcases vs with _ | ⟨a, _ | ⟨b, _ | ⟨c, vs⟩⟩⟩ <;> first | (simp at len; done) | skip
          exact st_par2 ok ha ht.1.1 ht.2.1.1 (by simpa only [par2] using hl)
        · rename_i i j l x px y py z pz vs'
          have hl := h2
          simp only [Bool.and_eq_true, decide_eq_true_eq] at h2
          obtain ⟨_, _, _, _, h3⟩ := h2
          unfold swS at h3
          simp only [Bool.and_eq_true, decide_eq_true_eq] at h3
          have len := eq_of_beq h3.2.2.1
          simp only [mTs, mT, Bool.and_eq_true, decide_eq_true_eq] at ht
          rcases vs with _ | ⟨a, _ | ⟨b, _ | ⟨c, _ | ⟨d, vs⟩⟩⟩⟩ <;> first | (simp at len; done) | skip
          exact st_par3 ok ha ht.1.1 ht.2.1.1 ht.2.2.1.1 (by simpa only [par2] using hl)
        · cases h2
    | _ => exact gen (by simpa only [mA] using h)
  | _ => cases e <;> exact gen (by simpa only [mA] using h)
mutual
theorem st_ok : ∀ (s : Sx) (X : Cx) (W : WX) (a : Stmt), OkS p n X W → mS G X.N X.env.scope s a = true → PS X a (lS X (callW p n) W s)
  | .asg (.tg (.nm i)) e, X, W, a, ok, h => by
    cases a with
    | Assign ts v pos =>
      rcases ts with _ | ⟨t, _ | ⟨t2, ts⟩⟩
      · simp [mS] at h
      · cases t with
        | Name x px =>
          simp only [mS, Bool.and_eq_true, Bool.or_eq_true, decide_eq_true_eq] at h
          obtain ⟨h1, h2, h3, h4⟩ := h
          rcases h4 with h4 | h4
          · exact st_set ok (e_ok hG e X W v ok.ok ok.tk h1) h2 h3 h4
          · cases v with
            | ListComp el gs s q =>
              cases e with
              | lc elt tg it c vs => exact st_setL hG ok h1 h2 h4
              | mth m o es => cases m <;> cases es <;> simp [mE] at h1
              | _ => simp [mE] at h1
            | _ => simp [lcYes] at h4
        | _ => simp [mS] at h
      · cases t <;> simp [mS] at h
    | _ => simp [mS] at h
  | .asg (.tg (.tp ts)) e, X, W, a, ok, h => by
    cases a with
    | Assign l v pos =>
      rcases l with _ | ⟨t, _ | ⟨t2, l⟩⟩
      · simp [mS] at h
      · cases t with
        | Tuple l k p =>
          simp only [mS, Bool.and_eq_true] at h
          exact mA_ok hG ok h.1 h.2
        | _ => simp [mS] at h
      · cases t <;> simp [mS] at h
    | _ => simp [mS] at h
  | .asg (.sub a i) e, X, W, st, ok, h => by
    cases st with
    | Assign l v pos =>
      rcases l with _ | ⟨t, _ | ⟨t2, l⟩⟩
      · simp [mS] at h
      · cases t with
        | Subscript x y q =>
          simp only [mS, Bool.and_eq_true] at h
          exact st_sub ok (e_ok hG a X W x ok.ok ok.tk h.1) (e_ok hG i X W y ok.ok ok.tk h.2.1) (e_ok hG e X W v ok.ok ok.tk h.2.2) (mE_pl h.2.1).2.1
        | _ => simp [mS] at h
      · cases t <;> simp [mS] at h
    | _ => simp [mS] at h
  | .aug i op e, X, W, st, ok, h => by
    cases st with
    | AugAssign t o v pos =>
      cases t with
      | Name x q =>
        simp only [mS, Bool.and_eq_true, decide_eq_true_eq] at h
        obtain ⟨rfl, h1, h2, h3⟩ := h
        exact st_aug ok (e_ok hG e X W v ok.ok ok.tk h3) h1 h2
      | _ => simp [mS] at h
    | _ => simp [mS] at h
  | .augs a i op e, X, W, st, ok, h => by
    cases st with
    | AugAssign t o v pos =>
      cases t with
      | Subscript x y q =>
        simp only [mS, Bool.and_eq_true, decide_eq_true_eq] at h
        obtain ⟨rfl, h1, h2, h3⟩ := h
        exact st_augs ok (e_ok hG a X W x ok.ok ok.tk h1) (e_ok hG i X W y ok.ok ok.tk h2) (e_ok hG e X W v ok.ok ok.tk h3) (mE_pl h2).2.1
      | _ => simp [mS] at h
    | _ => simp [mS] at h
  | .exp e, X, W, st, ok, h => by
    cases st with
    | Expr v pos =>
      simp only [mS, Bool.and_eq_true, Bool.not_eq_true'] at h
      exact st_exp (e_ok hG e X W v ok.ok ok.tk h.2) h.1
    | _ => simp [mS] at h
  | .ret e, X, W, st, ok, h => by
    cases st with
    | Return v pos =>
      cases v with
      | none => simp [mS] at h
      | some v =>
        simp only [mS] at h
        exact st_ret (e_ok hG e X W v ok.ok ok.tk h)
    | _ => simp [mS] at h
  | .retn, X, W, st, ok, h => by
    cases st with
    | Return v pos =>
      cases v with
      | none => exact st_retn
      | some v => simp [mS] at h
    | _ => simp [mS] at h
  | .iff c a b, X, W, st, ok, h => by
    cases st with
    | If x l r pos =>
      simp only [mS, Bool.and_eq_true] at h
      exact st_iff (t_ok hG c X W x ok.ok ok.tk h.1 h.2.1) (sts_ok a X W l ok h.2.2.1) (sts_ok b X W r ok h.2.2.2)
    | _ => simp [mS] at h
  | .whl c b, X, W, st, ok, h => by
    cases st with
    | While x l r pos =>
      cases r with
      | nil =>
        simp only [mS, Bool.and_eq_true] at h
        exact st_whl ok (t_ok hG c X W x ok.ok ok.tk h.1 h.2.1) (sts_ok b X W l ok h.2.2)
      | cons _ _ => simp [mS] at h
    | _ => simp [mS] at h
  | .for tg it b, X, W, st, ok, h => by
    cases st with
    | For t x l r pos =>
      cases r with
      | nil =>
        simp only [mS, Bool.and_eq_true] at h
        exact st_for ok (i_ok hG it X W t x ok.ok ok.tk h.1) (g_ok ok.ok ok.lo tg t h.2.1) (sts_ok b X W l ok h.2.2) (mI_fold h.1 X.env)
      | cons _ _ => simp [mS] at h
    | _ => simp [mS] at h
  | .brk, X, W, st, ok, h => by
    cases st with
    | Break pos => exact st_brk
    | _ => simp [mS] at h
  | .cnt, X, W, st, ok, h => by
    cases st with
    | Continue pos => exact st_cnt
    | _ => simp [mS] at h
  | .pss, X, W, st, ok, h => by
    cases st with
    | Pass pos => exact st_pss
    | _ => simp [mS] at h
theorem sts_ok : ∀ (s : Sxs) (X : Cx) (W : WX) (a : List Stmt), OkS p n X W → mSs G X.N X.env.scope s a = true → PSs X a (lSs X (callW p n) W s)
  | .nil, X, W, a, ok, h => by
    cases a with
    | nil => exact st_nil
    | cons _ _ => simp [mSs] at h
  | .cons s ss, X, W, a, ok, h => by
    cases a with
    | nil => simp [mSs] at h
    | cons a r =>
      simp only [mSs, Bool.and_eq_true] at h
      exact st_cons (st_ok s X W a ok h.1) (sts_ok ss X W r ok h.2)
end
end
end Ev
set_option Elab.async false
set_option linter.all false
set_option maxRecDepth 100000
set_option maxHeartbeats 1000000
/-! EvD1: the defs of a text; its law. -/
namespace Ev
open PySem PySem.Spec PyProof.Rows L2

theorem zip_lookup : ∀ {ps : List Str} {us : List Value}, ps.Nodup → us.length = ps.length → (ps.filterMap fun n => ((ps.zip us).lookup n).map fun v => (n, v)) = ps.zip us ∧ (ps.filter fun n => ((ps.zip us).lookup n).isNone) = []
  | [], us, _, h => by simp
  | p :: ps, [], _, h => by simp at h
  | p :: ps, u :: us, nd, h => by
    rw [List.nodup_cons] at nd
    obtain ⟨i1, i2⟩ := zip_lookup (ps := ps) (us := us) nd.2 (by simpa using h)
    have ne : ∀ n ∈ ps, ((p :: ps).zip (u :: us)).lookup n = (ps.zip us).lookup n := fun n hn => by
      have : (n == p) = false := by
        rw [beq_eq_false_iff_ne]
        rintro rfl
        exact nd.1 hn
      simp [List.zip_cons_cons, List.lookup, this]
    have e0 : ((p :: ps).zip (u :: us)).lookup p = some u := by simp [List.zip_cons_cons, List.lookup]
    constructor
    · rw [List.filterMap_cons, e0]
      simp only [Option.map_some, List.zip_cons_cons, List.cons.injEq, true_and]
      refine Eq.trans ?_ i1
      have aux : ∀ (f g : Str → Option (Str × Value)) (l : List Str), (∀ n ∈ l, f n = g n) → l.filterMap f = l.filterMap g := fun f g l => by
        induction l with
        | nil => intros; rfl
        | cons a l ih =>
          intro h
          rw [List.filterMap_cons, List.filterMap_cons, h a List.mem_cons_self, ih fun n hn => h n (List.mem_cons_of_mem _ hn)]
      refine aux _ _ ps fun n hn => ?_
      have := ne n hn
      rw [List.zip_cons_cons] at this
      rw [this]
    · rw [List.filter_cons, e0]
      simp only [Option.isNone_some, Bool.false_eq_true, if_false]
      refine Eq.trans ?_ i2
      exact List.filter_congr fun n hn => by rw [ne n hn]
theorem bind_plain {x qual : Str} {body : List Stmt} {scope : Scope} {kV doc pm cdv ct : Value} {an : Option Addr} {params : Arguments} {ps : List Str} {us : List Value} (h1 : params.posonlyargs = []) (h2 : params.args.map (·.arg) = ps) (h3 : params.kwonlyargs = []) (h4 : params.vararg = none) (h5 : params.kwarg = none) (nd : ps.Nodup) (hl : us.length = ps.length) :
    bindArgs (PySem.W.fnOf x qual params body scope .none kV doc pm an cdv ct) ⟨us, []⟩ = pure (ps.zip us) := by
  have q := zip_lookup nd hl
  unfold bindArgs
  have e : (PySem.W.fnOf x qual params body scope .none kV doc pm an cdv ct).params = params := rfl
  have e2 : (PySem.W.fnOf x qual params body scope .none kV doc pm an cdv ct).defaults = .none := rfl
  rw [e, e2]
  simp only [h1, h2, h3, h4, h5, List.map_nil, List.nil_append, List.append_nil]
  have e3 : seqItems? Value.none = pure none := rfl
  rw [e3]
  simp [hl, q.2]
  exact congrArg pure q.1

/-- a def of the text beside its reading -/
structure Ent where
  nm : Str
  N : List Str
  df : Df
  params : Arguments
  body : List Stmt
  scope : Scope
def Ent.ps (e : Ent) : List Str := e.params.args.map (·.arg)
def plainA (a : Arguments) : Bool := a.posonlyargs.isEmpty && (a.kwonlyargs.isEmpty && (a.vararg.isNone && (a.kwarg.isNone && decide (a.args.map (·.arg)).Nodup)))
def entOk (G : List Str) (e : Ent) : Bool :=
  C8.scC e.N e.ps e.scope && (plainA e.params && (decide (e.ps.length = e.df.np) && (decide (e.N.length = e.df.nn) && mSs G e.N e.scope e.df.body e.body)))
def progOf (T : List Ent) : Prog := fun f => (T.find? fun e => decide (e.nm = f)).map (·.df)
theorem progOf_of {T : List Ent} {f : Str} {d : Df} (h : progOf T f = some d) : ∃ e ∈ T, e.nm = f ∧ e.df = d := by
  unfold progOf at h
  cases q : T.find? fun e => decide (e.nm = f) with
  | none => rw [q] at h; cases h
  | some e =>
    rw [q] at h
    cases h
    exact ⟨e, List.mem_of_find?_eq_some q, by simpa using List.find?_some q, rfl⟩
theorem progOf_mem {T : List Ent} {f : Str} (h : f ∈ T.map (·.nm)) : ∃ d, progOf T f = some d := by
  unfold progOf
  cases q : T.find? fun e => decide (e.nm = f) with
  | none =>
    rw [List.find?_eq_none] at q
    obtain ⟨e, he, rfl⟩ := List.mem_map.1 h
    exact absurd (by simp) (q e he)
  | some e => exact ⟨_, rfl⟩
theorem fn_lo {CX : CXT} {P : Program} {w : World} {K : PySem.W.Frag} {mg : Str → Option Value} {base : Heap} {N : List Str} {qual : Str} {scope : Scope} {f : Addr} {cd : Value} {A : Around} {outer : List Env} {s : Shared} {H : Hp} {E : L2.XK} : LocOk (cxOf CX P w K mg base N qual scope f cd A outer s H E) scope := fun x h => by
  unfold locB at h
  split at h
  · exact ⟨.inl (by assumption), .inl rfl⟩
  · exact ⟨.inr (by assumption), .inl rfl⟩
  · cases h
theorem rl_start {K : PySem.W.Frag} {H : Hp} {ds : List D} {vs : List V} {N : List Str} {np nn : Nat} (rv : RVs K H ds vs) (h1 : vs.length = np) (h2 : N.length = nn) : RL K H (ds.map some ++ List.replicate (nn - np) none) (L2.start N vs) := by
  unfold L2.start
  have hl := rv.len
  refine ⟨by simp; omega, fun i d e => ?_⟩
  by_cases h : i < ds.length
  · rw [List.getElem?_append_left (by simpa using h), List.getElem?_map] at e
    cases q : ds[i]? with
    | none => rw [q] at e; cases e
    | some x =>
      rw [q] at e
      cases e
      obtain ⟨y, h3, h4⟩ := rv.get q
      exact ⟨y, by rw [List.getElem?_append_left (by simp; omega), List.getElem?_map, h3]; rfl, h4⟩
  · rw [List.getElem?_append_right (by simp; omega), List.getElem?_replicate] at e
    split at e <;> cases e
section
variable {P : Program} {w : World} {K : PySem.W.Frag} {mg : Str → Option Value} {base : Heap} {T : List Ent}
theorem bind_of {e : Ent} {a : Addr} {fd : FuncData} (F : FunD K e.nm e.nm e.params e.body e.scope [] [] a fd) (h : plainA e.params = true) : Binds K fd e.ps [] := by
  unfold plainA at h
  simp only [Bool.and_eq_true, decide_eq_true_eq, List.isEmpty_iff, Option.isNone_iff_eq_none] at h
  obtain ⟨h1, h2, h3, h4, h5⟩ := h
  exact F.bindsN fun kV doc pm an cdv ct us hl => bind_plain h1 rfl h2 h3 h4 h5 hl
theorem fn_ok (hT : ∀ e ∈ T, entOk (T.map (·.nm)) e = true) (bi : ∀ x ∈ bNames, mg x = none)
    (fx : ∀ e ∈ T, ∃ a fd, mg e.nm = some (.ref a) ∧ FunD K e.nm e.nm e.params e.body e.scope [] [] a fd) : ∀ n, ∀ e ∈ T, progOf T e.nm = some e.df → ∀ a fd, FunD K e.nm e.nm e.params e.body e.scope [] [] a fd →
      FnOk P w K mg base (L2.CX P w) n a fd e.ps (spOf K mg (progOf T) n e.nm e.df.np)
  | 0, e, he, hp, a, fd, F => ⟨fun _ _ _ _ ⟨_, _, _, _, _, _, _, h, _⟩ => h.elim, fun _ _ _ _ _ _ _ _ _ _ _ _ _ ⟨_, _, _, _, _, _, _, h, _⟩ => h.elim⟩
  | n + 1, e, he, hp, a, fd, F => by
    have h := hT e he
    unfold entOk at h
    simp only [Bool.and_eq_true, decide_eq_true_eq] at h
    obtain ⟨h1, h2, h3, h4, h5⟩ := h
    have G : ∀ f ∈ T.map (·.nm), ∃ d, progOf T f = some d := fun f hf => progOf_mem hf
    refine F.ok (C8.fnScope_by h1) (fun vs H Q E ⟨hl, _⟩ => by rw [hl, h3]) fun cdv A outer s H vs Q E hr ⟨hl, ds, S, Kk, Ek, rvs, rs, k, aft, xk⟩ => ?_
    let X := cxOf (L2.CX P w) P w K mg base e.N e.nm e.scope a cdv A outer s H E
    have nd : e.N.Nodup := (C8.fnScope_by h1).nd
    have un := hr.un
    have ok : Ok (progOf T) n X := ⟨rfl, nd, (by show X.A.units + 66 < cLine; exact Nat.lt_of_le_of_lt (by show _ ≤ X.A.units + 16 * n + 200; omega) un), hr, bi, fun f d hf => by
      obtain ⟨e', he', rfl, rfl⟩ := progOf_of hf
      obtain ⟨a', fd', hm, F'⟩ := fx e' he'
      have h' := hT e' he'
      unfold entOk at h'
      simp only [Bool.and_eq_true, decide_eq_true_eq] at h'
      exact ⟨a', fd', e'.ps, hm, F'.kp, bind_of F' h'.2.1, h'.2.2.1, fn_ok hT bi fx n e' he' hf a' fd' F'⟩⟩
    have oks : OkS (progOf T) n X (fun cls d _ H => E cls d H) := ⟨ok, takes_of rfl rfl rfl rfl, fn_lo, passes_of rfl⟩
    refine ⟨_, sts_ok G e.df.body X _ e.body oks h5, ?_⟩
    simp only [callW, hp] at k
    obtain ⟨_, k⟩ := k
    refine ⟨_, S, _, rl_start rvs hl h4, rs, k, fun ds' S' σ' H' ⟨S2, sb, kk⟩ rl' rs' e' => ?_, fun d S' v H' ⟨S2, sb, kk⟩ rv rs' e' => ?_, fun _ _ _ _ z => z.elim, fun _ _ _ _ z => z.elim, fun x ds' S' cls dd σ' H' ⟨S2, sb, kk⟩ rl' rs' e' rx => ?_⟩
    · exact aft .non S2 .non H' kk (e'.sub sb) (rs'.sub sb) .non
    · exact aft d S2 v H' kk (e'.sub sb) (rs'.sub sb) rv
    · exact xk x S2 cls dd H' kk (e'.sub sb) (rs'.sub sb) rx
end
end Ev
set_option Elab.async false
set_option linter.all false
set_option maxRecDepth 100000
set_option maxHeartbeats 1000000
/-! EvD2: a law's end. -/
namespace Ev
open PySem PySem.Spec PyProof.Rows L2

def Ent.d (e : Ent) : He.DefD := ⟨(e.nm, none), e.nm, e.nm, e.params, e.body, e.scope, [], []⟩
def ents (T : List Ent) : List He.DefD := T.map Ent.d
def entFa (T : List Ent) : List He.Fa := T.map (fun e => He.Fa.glo e.nm) ++ bNames.map He.Fa.free
theorem said {T : List Ent} {K : PySem.W.Frag} {h : Heap} {mg : Str → Option Value} (KX : K.In h) (G : h.Ns mainGlobals mg) (c : He.SaysD (entFa T) (ents T) K) :
    (∀ x ∈ bNames, mg x = none) ∧ ∀ e ∈ T, ∃ a fd, mg e.nm = some (.ref a) ∧ FunD K e.nm e.nm e.params e.body e.scope [] [] a fd := by
  refine ⟨fun x hx => ?_, fun e he => ?_⟩
  · have m : He.Fa.free x ∈ entFa T := List.mem_append.2 (.inr (List.mem_map.2 ⟨x, hx, rfl⟩))
    obtain ⟨i, hi⟩ := List.mem_iff_getElem?.1 m
    exact He.free_ok KX G (c.fact i hi)
  · have m : He.Fa.glo e.nm ∈ entFa T := List.mem_append.2 (.inl (List.mem_map.2 ⟨e, he, rfl⟩))
    obtain ⟨i, hi⟩ := List.mem_iff_getElem?.1 m
    have m2 : e.d ∈ ents T := List.mem_map.2 ⟨e, he, rfl⟩
    obtain ⟨j, hj⟩ := List.mem_iff_getElem?.1 m2
    obtain ⟨fd, F⟩ := c.def_ j hj
    exact ⟨_, fd, He.glo_ok KX G (c.fact i hi), F⟩
theorem only_fz {K : PySem.W.Frag} {H : Hp} {a : Addr} {xs : List V} (hO : Only H) (hS : SqL K H a xs) : FzL K H a xs := by
  rcases hS with (h | ⟨o, h⟩) | h
  · rcases hO a with e | ⟨o, ys, e⟩
    · rw [e] at h; cases h
    · rw [e] at h; cases h
  · exact .inl ⟨o, h⟩
  · exact .inr h
theorem bits_log {z : Int} (h : Builtin.Int.intBits z ≤ 1048576) : z.natAbs.log2 < 1048576 := by
  unfold Builtin.Int.intBits at h
  split at h
  · rename_i e
    have e' : z = 0 := by simpa using e
    subst e'
    decide
  · omega
theorem law_end {l : PySem.W.OpenLaw} {n k : Nat} {q : Program} {loose : List Str} {XP : (Str → Option Value) → Heap → Prop} {d : DefRec} {T : List Ent} {e : Ent}
    (hn : l.most = some n) (hn2 : n ≤ sizeLine) (hdf : d.params.defaults = []) (hr : Room k callerA) (hT : (T.all fun e => entOk (T.map (·.nm)) e) = true) (he : e ∈ T) (hp : progOf T e.nm = some e.df) (hd : d.name = e.nm) (hs : e.ps = [Str.ofString "script"]) (hsp : LawW (progOf T) k n e.nm) :
    PySem.W.WalkO q loose XP (He.hookD 4 (entFa T) (ents T)).says l.row.toRowW d [] (fun f vs => PySem.call f vs) := by
  have hT' := fun e he => List.all_eq_true.1 hT e he
  refine Att.attach_callB hn hdf fun w s₀ s₁ mg mb fa o pm cd doc a vs ns G Y ho hd' hcd hmg hobj hints hlen hbits hg => ?_
  obtain ⟨K, KX, c⟩ := Y
  obtain ⟨bi, fx⟩ := said KX G.T.g c
  obtain ⟨a', fd, hm, F⟩ := fx e he
  have ea : fa = a' := by
    rw [hd, hm] at hmg
    cases hmg
    rfl
  subst ea
  have h1 := hT' e he
  unfold entOk at h1
  simp only [Bool.and_eq_true, decide_eq_true_eq] at h1
  have hnp : e.df.np = 1 := by
    rw [← h1.2.2.1, hs]
    rfl
  have hb : ∀ (s : Shared) (u : Value), BindsTo s fd ⟨[u], []⟩ [((Str.ofString "script", u) : Str × Value)] := fun s u => by
    have pa := h1.2.1
    unfold plainA at pa
    simp only [Bool.and_eq_true, decide_eq_true_eq, List.isEmpty_iff, Option.isNone_iff_eq_none] at pa
    obtain ⟨q1, q2, q3, q4, q5⟩ := pa
    have r := FunD.bindsA (ps := [Str.ofString "script"]) F (fun kV doc pm an cdv ct us hl => bind_plain q1 hs q2 q3 q4 (by rw [← hs]; exact q5) hl) s [u] rfl
    exact r
  refine law_call (CX := L2.CX l.prog w) (sp := spOf K mg (progOf T) k e.nm e.df.np) KX G.T.g G.T.b G.T.builtins G.T.nolimit hg hobj hints (Nat.le_trans hlen hn2) hr (fun base kb nb => ?_) hb (fun H hO hS => ?_) ?_
  · have r := fn_ok (P := l.prog) (w := w) (base := base) hT' bi fx k e he hp fa fd F
    rw [hs] at r
    exact r
  · refine ⟨by rw [hnp]; rfl, [.fz (ns.map .int)], fun _ => none, _, _, .cons (.fz (only_fz hO hS) ?_) .nil, fun a o z => (nomatch z), hsp ns hlen (fun z hz => bits_log (hbits z hz)), fun d S' v H' hd e rs rv => ?_, fun x S' cls dd H' z => z.elim⟩
    · have rm : ∀ l : List Int, RVs K H (l.map D.int) (l.map V.int) := fun l => by
        induction l with
        | nil => exact .nil
        | cons i l ih => exact .cons (.int i) ih
      exact rm ns
    · subst hd
      cases rv
      rfl
  · intro H e' s' ⟨_, _, _, _, _, _, _, _, _, _, _, _, z⟩
    exact z
end Ev
set_option Elab.async false
set_option linter.all false
set_option maxRecDepth 100000
/-! EvW: rules to walk by, over plain data. -/
namespace Ev
open PySem (Str)
@[irreducible] def exX : CallT → Ex → Loc → XK → Sto → DK → Prop := exW
theorem exX_eq : exX = exW := by unfold exX; rfl
@[irreducible] def exsX : CallT → Exs → Loc → XK → Sto → (List D → Sto → Prop) → Prop := exsW
theorem exsX_eq : exsX = exsW := by unfold exsX; rfl
@[irreducible] def oeX : CallT → Oe → Loc → XK → Sto → (Option Int → Sto → Prop) → Prop := oeW
theorem oeX_eq : oeX = oeW := by unfold oeX; rfl
@[irreducible] def ocX : CallT → Oe → Loc → Sto → (Bool → Sto → Prop) → Prop := ocW
theorem ocX_eq : ocX = ocW := by unfold ocX; rfl
@[irreducible] def itX : CallT → It → Loc → XK → Sto → (List D → (Sto → Prop) → Sto → Prop) → Prop := itW
theorem itX_eq : itX = itW := by unfold itX; rfl
@[irreducible] def sxX : CallT → Sx → Loc → Sto → Ks → Prop := sxW
theorem sxX_eq : sxX = sxW := by unfold sxX; rfl
@[irreducible] def sxsX : CallT → Sxs → Loc → Sto → Ks → Prop := sxsW
theorem sxsX_eq : sxsX = sxsW := by unfold sxsX; rfl
@[irreducible] def binX : Bop → D → D → Sto → DK → Prop := binW
theorem binX_eq : binX = binW := by unfold binX; rfl
@[irreducible] def cmpX : Cop → D → D → Sto → (Bool → Prop) → Prop := cmpW
theorem cmpX_eq : cmpX = cmpW := by unfold cmpX; rfl
@[irreducible] def idxX : D → D → Sto → (D → Prop) → Prop := idxW
theorem idxX_eq : idxX = idxW := by unfold idxX; rfl
@[irreducible] def bltX : Bf → List D → Sto → DK → Prop := bltW
theorem bltX_eq : bltX = bltW := by unfold bltX; rfl
@[irreducible] def slcX : D → Option Int → Option Int → Sto → DK → Prop := slcW
theorem slcX_eq : slcX = slcW := by unfold slcX; rfl
@[irreducible] def isiX : Sto → D → Ty → (Bool → Prop) → Prop := isiD
theorem isiX_eq : isiX = isiD := by unfold isiX; rfl
@[irreducible] def rcvX : Mt → D → Sto → Prop := rcvW
theorem rcvX_eq : rcvX = rcvW := by unfold rcvX; rfl
@[irreducible] def mthX : Mt → D → List D → Sto → DK → Prop := mthW
theorem mthX_eq : mthX = mthW := by unfold mthX; rfl
@[irreducible] def tgX : Tg → D → Loc → (Loc → Prop) → Prop := tgW
theorem tgX_eq : tgX = tgW := by unfold tgX; rfl
@[irreducible] def tgsX : Tgs → List D → Loc → (Loc → Prop) → Prop := tgsW
theorem tgsX_eq : tgsX = tgsW := by unfold tgsX; rfl
@[irreducible] def forX : (Sto → Prop) → (D → Loc → Sto → (Loc → Sto → Prop) → Prop) → List D → Loc → Sto → (Loc → Sto → Prop) → Prop := forW
theorem forX_eq : forX = forW := by unfold forX; rfl
@[irreducible] def lcX : (Sto → Prop) → (D → Sto → (Option D → Sto → Prop) → Prop) → List D → List D → Sto → (List D → Sto → Prop) → Prop := lcW
theorem lcX_eq : lcX = lcW := by unfold lcX; rfl
@[irreducible] def itvX : D → Sto → (List D → (Sto → Prop) → Prop) → Prop := itvW
theorem itvX_eq : itvX = itvW := by unfold itvX; rfl
@[irreducible] def itlX : D → Sto → (List D → (Sto → Prop) → Prop) → Prop := itlW
theorem itlX_eq : itlX = itlW := by unfold itlX; rfl
@[irreducible] def zipX : D → D → Sto → (List D → (Sto → Prop) → Prop) → Prop := zipW
theorem zipX_eq : zipX = zipW := by unfold zipX; rfl
@[irreducible] def augX : Bop → D → D → Sto → DK → Prop := augW
theorem augX_eq : augX = augW := by unfold augX; rfl
@[irreducible] def subX : D → D → D → Sto → (Sto → Prop) → Prop := subW
theorem subX_eq : subX = subW := by unfold subX; rfl
@[irreducible] def callX : Prog → Nat → CallT := callW
theorem callX_eq : callX = callW := by unfold callX; rfl
@[irreducible] def truX (S : Sto) (x : D) (P : Bool → Prop) : Prop := ofO (truth? S x) P
theorem truX_eq : truX = fun S x P => ofO (truth? S x) P := by funext S x P; unfold truX; rfl
section
variable {C : CallT} {σ : Loc} {E : XK} {S : Sto} {K : DK}
theorem ex_var {i : Nat} {d : D} (k : K d S) (h : σ[i]? = some (some d)) : exX C (.var i) σ E S K := by
  simp only [exX_eq, exsX_eq, oeX_eq, ocX_eq, itX_eq, sxX_eq, sxsX_eq, binX_eq, cmpX_eq, idxX_eq, bltX_eq, slcX_eq, isiX_eq, rcvX_eq, mthX_eq, tgX_eq, tgsX_eq, forX_eq, lcX_eq, itvX_eq, itlX_eq, zipX_eq, augX_eq, subX_eq, callX_eq, truX_eq] at *
  exact ⟨d, h, k⟩
theorem ex_non (k : K .non S) : exX C .non σ E S K := by
  simp only [exX_eq, exsX_eq, oeX_eq, ocX_eq, itX_eq, sxX_eq, sxsX_eq, binX_eq, cmpX_eq, idxX_eq, bltX_eq, slcX_eq, isiX_eq, rcvX_eq, mthX_eq, tgX_eq, tgsX_eq, forX_eq, lcX_eq, itvX_eq, itlX_eq, zipX_eq, augX_eq, subX_eq, callX_eq, truX_eq] at *
  exact k
theorem ex_bl {b} (k : K (.bl b) S) : exX C (.bl b) σ E S K := by
  simp only [exX_eq, exsX_eq, oeX_eq, ocX_eq, itX_eq, sxX_eq, sxsX_eq, binX_eq, cmpX_eq, idxX_eq, bltX_eq, slcX_eq, isiX_eq, rcvX_eq, mthX_eq, tgX_eq, tgsX_eq, forX_eq, lcX_eq, itvX_eq, itlX_eq, zipX_eq, augX_eq, subX_eq, callX_eq, truX_eq] at *
  exact k
theorem ex_int {b} (k : K (.int b) S) : exX C (.int b) σ E S K := by
  simp only [exX_eq, exsX_eq, oeX_eq, ocX_eq, itX_eq, sxX_eq, sxsX_eq, binX_eq, cmpX_eq, idxX_eq, bltX_eq, slcX_eq, isiX_eq, rcvX_eq, mthX_eq, tgX_eq, tgsX_eq, forX_eq, lcX_eq, itvX_eq, itlX_eq, zipX_eq, augX_eq, subX_eq, callX_eq, truX_eq] at *
  exact k
theorem ex_str {b} (k : K (.str b) S) : exX C (.str b) σ E S K := by
  simp only [exX_eq, exsX_eq, oeX_eq, ocX_eq, itX_eq, sxX_eq, sxsX_eq, binX_eq, cmpX_eq, idxX_eq, bltX_eq, slcX_eq, isiX_eq, rcvX_eq, mthX_eq, tgX_eq, tgsX_eq, forX_eq, lcX_eq, itvX_eq, itlX_eq, zipX_eq, augX_eq, subX_eq, callX_eq, truX_eq] at *
  exact k
theorem ex_tup {es} (k : exsX C es σ E S fun l S' => l.length ≤ line ∧ K (.tup l) S') : exX C (.tup es) σ E S K := by
  simp only [exX_eq, exsX_eq, oeX_eq, ocX_eq, itX_eq, sxX_eq, sxsX_eq, binX_eq, cmpX_eq, idxX_eq, bltX_eq, slcX_eq, isiX_eq, rcvX_eq, mthX_eq, tgX_eq, tgsX_eq, forX_eq, lcX_eq, itvX_eq, itlX_eq, zipX_eq, augX_eq, subX_eq, callX_eq, truX_eq] at *
  exact k
theorem ex_lst {es} (k : exsX C es σ E S fun l S' => l.length ≤ line ∧ ∀ p, S' p = none → K (.ref p) (put S' p (.lst l))) : exX C (.lst es) σ E S K := by
  simp only [exX_eq, exsX_eq, oeX_eq, ocX_eq, itX_eq, sxX_eq, sxsX_eq, binX_eq, cmpX_eq, idxX_eq, bltX_eq, slcX_eq, isiX_eq, rcvX_eq, mthX_eq, tgX_eq, tgsX_eq, forX_eq, lcX_eq, itvX_eq, itlX_eq, zipX_eq, augX_eq, subX_eq, callX_eq, truX_eq] at *
  exact k
theorem ex_dic0 (k : ∀ p, S p = none → K (.ref p) (put S p (.dic []))) : exX C .dic0 σ E S K := by
  simp only [exX_eq, exsX_eq, oeX_eq, ocX_eq, itX_eq, sxX_eq, sxsX_eq, binX_eq, cmpX_eq, idxX_eq, bltX_eq, slcX_eq, isiX_eq, rcvX_eq, mthX_eq, tgX_eq, tgsX_eq, forX_eq, lcX_eq, itvX_eq, itlX_eq, zipX_eq, augX_eq, subX_eq, callX_eq, truX_eq] at *
  exact k
theorem ex_bin {op a b} (k : exX C a σ E S fun x S1 => exX C b σ E S1 fun y S2 => binX op x y S2 K) : exX C (.bin op a b) σ E S K := by
  simp only [exX_eq, exsX_eq, oeX_eq, ocX_eq, itX_eq, sxX_eq, sxsX_eq, binX_eq, cmpX_eq, idxX_eq, bltX_eq, slcX_eq, isiX_eq, rcvX_eq, mthX_eq, tgX_eq, tgsX_eq, forX_eq, lcX_eq, itvX_eq, itlX_eq, zipX_eq, augX_eq, subX_eq, callX_eq, truX_eq] at *
  exact k
theorem ex_neg {a} (k : exX C a σ E S fun x S1 => ∃ i, x = .int i ∧ K (.int (-i)) S1) : exX C (.neg a) σ E S K := by
  simp only [exX_eq, exsX_eq, oeX_eq, ocX_eq, itX_eq, sxX_eq, sxsX_eq, binX_eq, cmpX_eq, idxX_eq, bltX_eq, slcX_eq, isiX_eq, rcvX_eq, mthX_eq, tgX_eq, tgsX_eq, forX_eq, lcX_eq, itvX_eq, itlX_eq, zipX_eq, augX_eq, subX_eq, callX_eq, truX_eq] at *
  exact k
theorem ex_inv {a} (k : exX C a σ E S fun x S1 => ∃ i, x = .int i ∧ K (.int (bnot i)) S1) : exX C (.inv a) σ E S K := by
  simp only [exX_eq, exsX_eq, oeX_eq, ocX_eq, itX_eq, sxX_eq, sxsX_eq, binX_eq, cmpX_eq, idxX_eq, bltX_eq, slcX_eq, isiX_eq, rcvX_eq, mthX_eq, tgX_eq, tgsX_eq, forX_eq, lcX_eq, itvX_eq, itlX_eq, zipX_eq, augX_eq, subX_eq, callX_eq, truX_eq] at *
  exact k
theorem ex_not {a} (k : exX C a σ E S fun x S1 => truX S1 x fun b => K (.bl (!b)) S1) : exX C (.not a) σ E S K := by
  simp only [exX_eq, exsX_eq, oeX_eq, ocX_eq, itX_eq, sxX_eq, sxsX_eq, binX_eq, cmpX_eq, idxX_eq, bltX_eq, slcX_eq, isiX_eq, rcvX_eq, mthX_eq, tgX_eq, tgsX_eq, forX_eq, lcX_eq, itvX_eq, itlX_eq, zipX_eq, augX_eq, subX_eq, callX_eq, truX_eq] at *
  exact k
theorem ex_cmp {op a b} (k : exX C a σ E S fun x S1 => exX C b σ E S1 fun y S2 => cmpX op x y S2 fun c => K (.bl c) S2) : exX C (.cmp op a b) σ E S K := by
  simp only [exX_eq, exsX_eq, oeX_eq, ocX_eq, itX_eq, sxX_eq, sxsX_eq, binX_eq, cmpX_eq, idxX_eq, bltX_eq, slcX_eq, isiX_eq, rcvX_eq, mthX_eq, tgX_eq, tgsX_eq, forX_eq, lcX_eq, itvX_eq, itlX_eq, zipX_eq, augX_eq, subX_eq, callX_eq, truX_eq] at *
  exact k
theorem ex_chn {o1 o2 a b c} (k : exX C a σ E S fun x S1 => exX C b σ E S1 fun y S2 => cmpX o1 x y S2 fun k => if k = true then exX C c σ E S2 fun z S3 => cmpX o2 y z S3 fun k' => K (.bl k') S3 else K (.bl false) S2) : exX C (.chn o1 o2 a b c) σ E S K := by
  simp only [exX_eq, exsX_eq, oeX_eq, ocX_eq, itX_eq, sxX_eq, sxsX_eq, binX_eq, cmpX_eq, idxX_eq, bltX_eq, slcX_eq, isiX_eq, rcvX_eq, mthX_eq, tgX_eq, tgsX_eq, forX_eq, lcX_eq, itvX_eq, itlX_eq, zipX_eq, augX_eq, subX_eq, callX_eq, truX_eq] at *
  exact k
theorem ex_and {a b} (k : exX C a σ E S fun x S1 => truX S1 x fun k => if k = true then exX C b σ E S1 K else K x S1) : exX C (.and a b) σ E S K := by
  simp only [exX_eq, exsX_eq, oeX_eq, ocX_eq, itX_eq, sxX_eq, sxsX_eq, binX_eq, cmpX_eq, idxX_eq, bltX_eq, slcX_eq, isiX_eq, rcvX_eq, mthX_eq, tgX_eq, tgsX_eq, forX_eq, lcX_eq, itvX_eq, itlX_eq, zipX_eq, augX_eq, subX_eq, callX_eq, truX_eq] at *
  exact k
theorem ex_or {a b} (k : exX C a σ E S fun x S1 => truX S1 x fun k => if k = true then K x S1 else exX C b σ E S1 K) : exX C (.or a b) σ E S K := by
  simp only [exX_eq, exsX_eq, oeX_eq, ocX_eq, itX_eq, sxX_eq, sxsX_eq, binX_eq, cmpX_eq, idxX_eq, bltX_eq, slcX_eq, isiX_eq, rcvX_eq, mthX_eq, tgX_eq, tgsX_eq, forX_eq, lcX_eq, itvX_eq, itlX_eq, zipX_eq, augX_eq, subX_eq, callX_eq, truX_eq] at *
  exact k
theorem ex_ite {c a b} (k : exX C c σ E S fun x S1 => truX S1 x fun k => if k = true then exX C a σ E S1 K else exX C b σ E S1 K) : exX C (.ite c a b) σ E S K := by
  simp only [exX_eq, exsX_eq, oeX_eq, ocX_eq, itX_eq, sxX_eq, sxsX_eq, binX_eq, cmpX_eq, idxX_eq, bltX_eq, slcX_eq, isiX_eq, rcvX_eq, mthX_eq, tgX_eq, tgsX_eq, forX_eq, lcX_eq, itvX_eq, itlX_eq, zipX_eq, augX_eq, subX_eq, callX_eq, truX_eq] at *
  exact k
theorem ex_idx {a i} (k : exX C a σ E S fun x S1 => exX C i σ E S1 fun y S2 => idxX x y S2 fun d => K d S2) : exX C (.idx a i) σ E S K := by
  simp only [exX_eq, exsX_eq, oeX_eq, ocX_eq, itX_eq, sxX_eq, sxsX_eq, binX_eq, cmpX_eq, idxX_eq, bltX_eq, slcX_eq, isiX_eq, rcvX_eq, mthX_eq, tgX_eq, tgsX_eq, forX_eq, lcX_eq, itvX_eq, itlX_eq, zipX_eq, augX_eq, subX_eq, callX_eq, truX_eq] at *
  exact k
theorem ex_slc {a lo hi} (k : exX C a σ E S fun x S1 => oeX C lo σ E S1 fun l S2 => oeX C hi σ E S2 fun h S3 => slcX x l h S3 K) : exX C (.slc a lo hi) σ E S K := by
  simp only [exX_eq, exsX_eq, oeX_eq, ocX_eq, itX_eq, sxX_eq, sxsX_eq, binX_eq, cmpX_eq, idxX_eq, bltX_eq, slcX_eq, isiX_eq, rcvX_eq, mthX_eq, tgX_eq, tgsX_eq, forX_eq, lcX_eq, itvX_eq, itlX_eq, zipX_eq, augX_eq, subX_eq, callX_eq, truX_eq] at *
  exact k
theorem ex_call {f es} (k : exsX C es σ E S fun l S1 => C f l S1 K E) : exX C (.call f es) σ E S K := by
  simp only [exX_eq, exsX_eq, oeX_eq, ocX_eq, itX_eq, sxX_eq, sxsX_eq, binX_eq, cmpX_eq, idxX_eq, bltX_eq, slcX_eq, isiX_eq, rcvX_eq, mthX_eq, tgX_eq, tgsX_eq, forX_eq, lcX_eq, itvX_eq, itlX_eq, zipX_eq, augX_eq, subX_eq, callX_eq, truX_eq] at *
  exact k
theorem ex_blt {f es} (k : exsX C es σ E S fun l S1 => bltX f l S1 K) : exX C (.blt f es) σ E S K := by
  simp only [exX_eq, exsX_eq, oeX_eq, ocX_eq, itX_eq, sxX_eq, sxsX_eq, binX_eq, cmpX_eq, idxX_eq, bltX_eq, slcX_eq, isiX_eq, rcvX_eq, mthX_eq, tgX_eq, tgsX_eq, forX_eq, lcX_eq, itvX_eq, itlX_eq, zipX_eq, augX_eq, subX_eq, callX_eq, truX_eq] at *
  exact k
theorem ex_isi {a t} (k : exX C a σ E S fun x S1 => isiX S1 x t fun b => K (.bl b) S1) : exX C (.isi a t) σ E S K := by
  simp only [exX_eq, exsX_eq, oeX_eq, ocX_eq, itX_eq, sxX_eq, sxsX_eq, binX_eq, cmpX_eq, idxX_eq, bltX_eq, slcX_eq, isiX_eq, rcvX_eq, mthX_eq, tgX_eq, tgsX_eq, forX_eq, lcX_eq, itvX_eq, itlX_eq, zipX_eq, augX_eq, subX_eq, callX_eq, truX_eq] at *
  exact k
theorem ex_mth {m o es} (k : exX C o σ E S fun x S1 => rcvX m x S1 ∧ exsX C es σ E S1 fun l S2 => mthX m x l S2 K) : exX C (.mth m o es) σ E S K := by
  simp only [exX_eq, exsX_eq, oeX_eq, ocX_eq, itX_eq, sxX_eq, sxsX_eq, binX_eq, cmpX_eq, idxX_eq, bltX_eq, slcX_eq, isiX_eq, rcvX_eq, mthX_eq, tgX_eq, tgsX_eq, forX_eq, lcX_eq, itvX_eq, itlX_eq, zipX_eq, augX_eq, subX_eq, callX_eq, truX_eq] at *
  exact k
theorem ex_lc {elt tg it c vs} (k : itX C it σ E S fun ds chk S1 => lcX chk (fun d S2 Kt => tgX tg d (wipe σ vs) fun σ2 => ocX C c σ2 S2 fun b S3 => if b = true then exX C elt σ2 noX S3 fun x S4 => Kt (some x) S4 else Kt none S3) ds [] S1 fun l S5 => ∀ p, S5 p = none → K (.ref p) (put S5 p (.lst l))) :
    exX C (.lc elt tg it c vs) σ E S K := by
  simp only [exX_eq, exsX_eq, oeX_eq, ocX_eq, itX_eq, sxX_eq, sxsX_eq, binX_eq, cmpX_eq, idxX_eq, bltX_eq, slcX_eq, isiX_eq, rcvX_eq, mthX_eq, tgX_eq, tgsX_eq, forX_eq, lcX_eq, itvX_eq, itlX_eq, zipX_eq, augX_eq, subX_eq, callX_eq, truX_eq] at *
  exact k
theorem ex_cut {e} (Q : D → Sto → Prop) (h : ∀ K' : DK, (∀ x S', Q x S' → K' x S') → exX C e σ E S K') (h2 : ∀ x S', Q x S' → K x S') : exX C e σ E S K := by
  simp only [exX_eq, exsX_eq, oeX_eq, ocX_eq, itX_eq, sxX_eq, sxsX_eq, binX_eq, cmpX_eq, idxX_eq, bltX_eq, slcX_eq, isiX_eq, rcvX_eq, mthX_eq, tgX_eq, tgsX_eq, forX_eq, lcX_eq, itvX_eq, itlX_eq, zipX_eq, augX_eq, subX_eq, callX_eq, truX_eq] at *
  exact h K h2
theorem exs_nil {K : List D → Sto → Prop} (k : K [] S) : exsX C .nil σ E S K := by
  simp only [exX_eq, exsX_eq, oeX_eq, ocX_eq, itX_eq, sxX_eq, sxsX_eq, binX_eq, cmpX_eq, idxX_eq, bltX_eq, slcX_eq, isiX_eq, rcvX_eq, mthX_eq, tgX_eq, tgsX_eq, forX_eq, lcX_eq, itvX_eq, itlX_eq, zipX_eq, augX_eq, subX_eq, callX_eq, truX_eq] at *
  exact k
theorem exs_cons {e es} {K : List D → Sto → Prop} (k : exX C e σ E S fun x S1 => exsX C es σ E S1 fun l S2 => K (x :: l) S2) : exsX C (.cons e es) σ E S K := by
  simp only [exX_eq, exsX_eq, oeX_eq, ocX_eq, itX_eq, sxX_eq, sxsX_eq, binX_eq, cmpX_eq, idxX_eq, bltX_eq, slcX_eq, isiX_eq, rcvX_eq, mthX_eq, tgX_eq, tgsX_eq, forX_eq, lcX_eq, itvX_eq, itlX_eq, zipX_eq, augX_eq, subX_eq, callX_eq, truX_eq] at *
  exact k
theorem oe_no {K : Option Int → Sto → Prop} (k : K none S) : oeX C .no σ E S K := by
  simp only [exX_eq, exsX_eq, oeX_eq, ocX_eq, itX_eq, sxX_eq, sxsX_eq, binX_eq, cmpX_eq, idxX_eq, bltX_eq, slcX_eq, isiX_eq, rcvX_eq, mthX_eq, tgX_eq, tgsX_eq, forX_eq, lcX_eq, itvX_eq, itlX_eq, zipX_eq, augX_eq, subX_eq, callX_eq, truX_eq] at *
  exact k
theorem oe_yes {e} {K : Option Int → Sto → Prop} (k : exX C e σ E S fun x S1 => ∃ i, x = .int i ∧ K (some i) S1) : oeX C (.yes e) σ E S K := by
  simp only [exX_eq, exsX_eq, oeX_eq, ocX_eq, itX_eq, sxX_eq, sxsX_eq, binX_eq, cmpX_eq, idxX_eq, bltX_eq, slcX_eq, isiX_eq, rcvX_eq, mthX_eq, tgX_eq, tgsX_eq, forX_eq, lcX_eq, itvX_eq, itlX_eq, zipX_eq, augX_eq, subX_eq, callX_eq, truX_eq] at *
  exact k
theorem oc_no {K : Bool → Sto → Prop} (k : K true S) : ocX C .no σ S K := by
  simp only [exX_eq, exsX_eq, oeX_eq, ocX_eq, itX_eq, sxX_eq, sxsX_eq, binX_eq, cmpX_eq, idxX_eq, bltX_eq, slcX_eq, isiX_eq, rcvX_eq, mthX_eq, tgX_eq, tgsX_eq, forX_eq, lcX_eq, itvX_eq, itlX_eq, zipX_eq, augX_eq, subX_eq, callX_eq, truX_eq] at *
  exact k
theorem oc_yes {e} {K : Bool → Sto → Prop} (k : exX C e σ noX S fun x S1 => truX S1 x fun b => K b S1) : ocX C (.yes e) σ S K := by
  simp only [exX_eq, exsX_eq, oeX_eq, ocX_eq, itX_eq, sxX_eq, sxsX_eq, binX_eq, cmpX_eq, idxX_eq, bltX_eq, slcX_eq, isiX_eq, rcvX_eq, mthX_eq, tgX_eq, tgsX_eq, forX_eq, lcX_eq, itvX_eq, itlX_eq, zipX_eq, augX_eq, subX_eq, callX_eq, truX_eq] at *
  exact k
theorem len_ok {l : List D} {P : Prop} (k : P) (h : l.length ≤ line) : l.length ≤ line ∧ P := ⟨h, k⟩
theorem eq_int {i : Int} {P : Int → Prop} (k : P i) : ∃ j, D.int i = .int j ∧ P j := ⟨i, rfl, k⟩
/-! iterators -/
section
variable {K : List D → (Sto → Prop) → Sto → Prop}
theorem it_val {e} (k : exX C e σ E S fun x S1 => itvX x S1 fun l chk => K l chk S1) : itX C (.val e) σ E S K := by
  simp only [exX_eq, exsX_eq, oeX_eq, ocX_eq, itX_eq, sxX_eq, sxsX_eq, binX_eq, cmpX_eq, idxX_eq, bltX_eq, slcX_eq, isiX_eq, rcvX_eq, mthX_eq, tgX_eq, tgsX_eq, forX_eq, lcX_eq, itvX_eq, itlX_eq, zipX_eq, augX_eq, subX_eq, callX_eq, truX_eq] at *
  exact k
theorem it_rg1 {a} (k : exX C a σ E S fun x S1 => ∃ i, x = .int i ∧ small62 i ∧ K ((List.range i.toNat).map fun (k : Nat) => .int k) (fun _ => True) S1) : itX C (.rg1 a) σ E S K := by
  simp only [exX_eq, exsX_eq, oeX_eq, ocX_eq, itX_eq, sxX_eq, sxsX_eq, binX_eq, cmpX_eq, idxX_eq, bltX_eq, slcX_eq, isiX_eq, rcvX_eq, mthX_eq, tgX_eq, tgsX_eq, forX_eq, lcX_eq, itvX_eq, itlX_eq, zipX_eq, augX_eq, subX_eq, callX_eq, truX_eq] at *
  exact k
theorem it_rg2 {a b} (k : exX C a σ E S fun x S1 => exX C b σ E S1 fun y S2 => ∃ i j, x = .int i ∧ y = .int j ∧ small62 i ∧ small62 j ∧ K ((List.range (j - i).toNat).map fun (k : Nat) => .int (i + k)) (fun _ => True) S2) : itX C (.rg2 a b) σ E S K := by
  simp only [exX_eq, exsX_eq, oeX_eq, ocX_eq, itX_eq, sxX_eq, sxsX_eq, binX_eq, cmpX_eq, idxX_eq, bltX_eq, slcX_eq, isiX_eq, rcvX_eq, mthX_eq, tgX_eq, tgsX_eq, forX_eq, lcX_eq, itvX_eq, itlX_eq, zipX_eq, augX_eq, subX_eq, callX_eq, truX_eq] at *
  exact k
theorem it_rgd {a b} (k : exX C a σ E S fun x S1 => exX C b σ E S1 fun y S2 => ∃ i j, x = .int i ∧ y = .int j ∧ small62 i ∧ small62 j ∧ K ((List.range (i - j).toNat).map fun (k : Nat) => .int (i - k)) (fun _ => True) S2) : itX C (.rgd a b) σ E S K := by
  simp only [exX_eq, exsX_eq, oeX_eq, ocX_eq, itX_eq, sxX_eq, sxsX_eq, binX_eq, cmpX_eq, idxX_eq, bltX_eq, slcX_eq, isiX_eq, rcvX_eq, mthX_eq, tgX_eq, tgsX_eq, forX_eq, lcX_eq, itvX_eq, itlX_eq, zipX_eq, augX_eq, subX_eq, callX_eq, truX_eq] at *
  exact k
theorem it_enum {e} (k : exX C e σ E S fun x S1 => itlX x S1 fun l chk => K (l.zipIdx.map fun p => .tup [.int p.2, p.1]) chk S1) : itX C (.enum e) σ E S K := by
  simp only [exX_eq, exsX_eq, oeX_eq, ocX_eq, itX_eq, sxX_eq, sxsX_eq, binX_eq, cmpX_eq, idxX_eq, bltX_eq, slcX_eq, isiX_eq, rcvX_eq, mthX_eq, tgX_eq, tgsX_eq, forX_eq, lcX_eq, itvX_eq, itlX_eq, zipX_eq, augX_eq, subX_eq, callX_eq, truX_eq] at *
  exact k
theorem it_zip {a b} (k : exX C a σ E S fun x S1 => exX C b σ E S1 fun y S2 => zipX x y S2 fun l chk => K l chk S2) : itX C (.zip a b) σ E S K := by
  simp only [exX_eq, exsX_eq, oeX_eq, ocX_eq, itX_eq, sxX_eq, sxsX_eq, binX_eq, cmpX_eq, idxX_eq, bltX_eq, slcX_eq, isiX_eq, rcvX_eq, mthX_eq, tgX_eq, tgsX_eq, forX_eq, lcX_eq, itvX_eq, itlX_eq, zipX_eq, augX_eq, subX_eq, callX_eq, truX_eq] at *
  exact k
theorem it_rev {e} (k : exX C e σ E S fun x S1 => itvX x S1 fun l chk => K l.reverse chk S1) : itX C (.rev e) σ E S K := by
  simp only [exX_eq, exsX_eq, oeX_eq, ocX_eq, itX_eq, sxX_eq, sxsX_eq, binX_eq, cmpX_eq, idxX_eq, bltX_eq, slcX_eq, isiX_eq, rcvX_eq, mthX_eq, tgX_eq, tgsX_eq, forX_eq, lcX_eq, itvX_eq, itlX_eq, zipX_eq, augX_eq, subX_eq, callX_eq, truX_eq] at *
  exact k
end
theorem iv_fz {l : List D} {K : List D → (Sto → Prop) → Prop} (k : K l fun _ => True) : itvX (.fz l) S K := by
  simp only [exX_eq, exsX_eq, oeX_eq, ocX_eq, itX_eq, sxX_eq, sxsX_eq, binX_eq, cmpX_eq, idxX_eq, bltX_eq, slcX_eq, isiX_eq, rcvX_eq, mthX_eq, tgX_eq, tgsX_eq, forX_eq, lcX_eq, itvX_eq, itlX_eq, zipX_eq, augX_eq, subX_eq, callX_eq, truX_eq] at *
  exact k
theorem iv_tup {l : List D} {K : List D → (Sto → Prop) → Prop} (k : K l fun _ => True) : itvX (.tup l) S K := by
  simp only [exX_eq, exsX_eq, oeX_eq, ocX_eq, itX_eq, sxX_eq, sxsX_eq, binX_eq, cmpX_eq, idxX_eq, bltX_eq, slcX_eq, isiX_eq, rcvX_eq, mthX_eq, tgX_eq, tgsX_eq, forX_eq, lcX_eq, itvX_eq, itlX_eq, zipX_eq, augX_eq, subX_eq, callX_eq, truX_eq] at *
  exact k
theorem iv_lst {n : Nat} {l : List D} {K : List D → (Sto → Prop) → Prop} (hn : S n = some (.lst l)) (k : K l fun S' => S' n = some (.lst l)) : itvX (.ref n) S K := by
  simp only [exX_eq, exsX_eq, oeX_eq, ocX_eq, itX_eq, sxX_eq, sxsX_eq, binX_eq, cmpX_eq, idxX_eq, bltX_eq, slcX_eq, isiX_eq, rcvX_eq, mthX_eq, tgX_eq, tgsX_eq, forX_eq, lcX_eq, itvX_eq, itlX_eq, zipX_eq, augX_eq, subX_eq, callX_eq, truX_eq] at *
  simpa only [itvW, hn] using k
theorem il_lst {n : Nat} {l : List D} {K : List D → (Sto → Prop) → Prop} (hn : S n = some (.lst l)) (k : K l fun S' => S' n = some (.lst l)) : itlX (.ref n) S K := by
  simp only [exX_eq, exsX_eq, oeX_eq, ocX_eq, itX_eq, sxX_eq, sxsX_eq, binX_eq, cmpX_eq, idxX_eq, bltX_eq, slcX_eq, isiX_eq, rcvX_eq, mthX_eq, tgX_eq, tgsX_eq, forX_eq, lcX_eq, itvX_eq, itlX_eq, zipX_eq, augX_eq, subX_eq, callX_eq, truX_eq] at *
  simpa only [itlW, hn] using k
theorem iz_tup {l r : List D} {K : List D → (Sto → Prop) → Prop} (k : K (zip2 l r) fun _ => True) : zipX (.tup l) (.tup r) S K := by
  simp only [exX_eq, exsX_eq, oeX_eq, ocX_eq, itX_eq, sxX_eq, sxsX_eq, binX_eq, cmpX_eq, idxX_eq, bltX_eq, slcX_eq, isiX_eq, rcvX_eq, mthX_eq, tgX_eq, tgsX_eq, forX_eq, lcX_eq, itvX_eq, itlX_eq, zipX_eq, augX_eq, subX_eq, callX_eq, truX_eq] at *
  exact k
/-! truth -/
theorem tr_bl {b : Bool} {P : Bool → Prop} (k : P b) : truX S (.bl b) P := by
  simp only [exX_eq, exsX_eq, oeX_eq, ocX_eq, itX_eq, sxX_eq, sxsX_eq, binX_eq, cmpX_eq, idxX_eq, bltX_eq, slcX_eq, isiX_eq, rcvX_eq, mthX_eq, tgX_eq, tgsX_eq, forX_eq, lcX_eq, itvX_eq, itlX_eq, zipX_eq, augX_eq, subX_eq, callX_eq, truX_eq] at *
  exact ⟨b, rfl, k⟩
theorem tr_int {b : Int} {P : Bool → Prop} (k : P (b != 0)) : truX S (.int b) P := by
  simp only [exX_eq, exsX_eq, oeX_eq, ocX_eq, itX_eq, sxX_eq, sxsX_eq, binX_eq, cmpX_eq, idxX_eq, bltX_eq, slcX_eq, isiX_eq, rcvX_eq, mthX_eq, tgX_eq, tgsX_eq, forX_eq, lcX_eq, itvX_eq, itlX_eq, zipX_eq, augX_eq, subX_eq, callX_eq, truX_eq] at *
  exact ⟨_, rfl, k⟩
theorem tr_non {P : Bool → Prop} (k : P false) : truX S .non P := by
  simp only [exX_eq, exsX_eq, oeX_eq, ocX_eq, itX_eq, sxX_eq, sxsX_eq, binX_eq, cmpX_eq, idxX_eq, bltX_eq, slcX_eq, isiX_eq, rcvX_eq, mthX_eq, tgX_eq, tgsX_eq, forX_eq, lcX_eq, itvX_eq, itlX_eq, zipX_eq, augX_eq, subX_eq, callX_eq, truX_eq] at *
  exact ⟨_, rfl, k⟩
theorem tr_tup {l : List D} {P : Bool → Prop} (k : P (!l.isEmpty)) : truX S (.tup l) P := by
  simp only [exX_eq, exsX_eq, oeX_eq, ocX_eq, itX_eq, sxX_eq, sxsX_eq, binX_eq, cmpX_eq, idxX_eq, bltX_eq, slcX_eq, isiX_eq, rcvX_eq, mthX_eq, tgX_eq, tgsX_eq, forX_eq, lcX_eq, itvX_eq, itlX_eq, zipX_eq, augX_eq, subX_eq, callX_eq, truX_eq] at *
  exact ⟨_, rfl, k⟩
theorem tr_lst {n : Nat} {l : List D} {P : Bool → Prop} (k : P (!l.isEmpty)) (h : S n = some (.lst l)) : truX S (.ref n) P := by
  simp only [exX_eq, exsX_eq, oeX_eq, ocX_eq, itX_eq, sxX_eq, sxsX_eq, binX_eq, cmpX_eq, idxX_eq, bltX_eq, slcX_eq, isiX_eq, rcvX_eq, mthX_eq, tgX_eq, tgsX_eq, forX_eq, lcX_eq, itvX_eq, itlX_eq, zipX_eq, augX_eq, subX_eq, callX_eq, truX_eq] at *
  exact ⟨_, by simp only [truth?, h], k⟩
theorem if_both {b : Bool} {p q : Prop} (h1 : b = true → p) (h2 : b = false → q) : if b = true then p else q := by
  cases b with
  | true => exact h1 rfl
  | false => exact h2 rfl
theorem if_dec {c : Prop} [Decidable c] {p q : Prop} (h1 : c → p) (h2 : ¬c → q) : if decide c = true then p else q := by
  by_cases h : c
  · rw [if_pos (by simpa using h)]; exact h1 h
  · rw [if_neg (by simpa using h)]; exact h2 h
theorem if_t {p q : Prop} (h : p) : if true = true then p else q := h
theorem if_f {p q : Prop} (h : q) : if false = true then p else q := h
/-! operators -/
section
variable {i j : Int}
theorem b_add (k : K (.int (i + j)) S) : binX .add (.int i) (.int j) S K := by
  simp only [exX_eq, exsX_eq, oeX_eq, ocX_eq, itX_eq, sxX_eq, sxsX_eq, binX_eq, cmpX_eq, idxX_eq, bltX_eq, slcX_eq, isiX_eq, rcvX_eq, mthX_eq, tgX_eq, tgsX_eq, forX_eq, lcX_eq, itvX_eq, itlX_eq, zipX_eq, augX_eq, subX_eq, callX_eq, truX_eq] at *
  exact k
theorem b_addB {j : Bool} (k : K (.int (i + b2 j)) S) : binX .add (.int i) (.bl j) S K := by
  simp only [exX_eq, exsX_eq, oeX_eq, ocX_eq, itX_eq, sxX_eq, sxsX_eq, binX_eq, cmpX_eq, idxX_eq, bltX_eq, slcX_eq, isiX_eq, rcvX_eq, mthX_eq, tgX_eq, tgsX_eq, forX_eq, lcX_eq, itvX_eq, itlX_eq, zipX_eq, augX_eq, subX_eq, callX_eq, truX_eq] at *
  exact k
theorem b_sub (k : K (.int (i - j)) S) : binX .sub (.int i) (.int j) S K := by
  simp only [exX_eq, exsX_eq, oeX_eq, ocX_eq, itX_eq, sxX_eq, sxsX_eq, binX_eq, cmpX_eq, idxX_eq, bltX_eq, slcX_eq, isiX_eq, rcvX_eq, mthX_eq, tgX_eq, tgsX_eq, forX_eq, lcX_eq, itvX_eq, itlX_eq, zipX_eq, augX_eq, subX_eq, callX_eq, truX_eq] at *
  exact k
theorem b_mul (k : K (.int (i * j)) S) (h : mulOk i j) : binX .mul (.int i) (.int j) S K := by
  simp only [exX_eq, exsX_eq, oeX_eq, ocX_eq, itX_eq, sxX_eq, sxsX_eq, binX_eq, cmpX_eq, idxX_eq, bltX_eq, slcX_eq, isiX_eq, rcvX_eq, mthX_eq, tgX_eq, tgsX_eq, forX_eq, lcX_eq, itvX_eq, itlX_eq, zipX_eq, augX_eq, subX_eq, callX_eq, truX_eq] at *
  exact ⟨h, k⟩
theorem b_div (k : K (.int (i / j)) S) (h : 0 < j ∧ j.natAbs.log2 < 9000) : binX .fdiv (.int i) (.int j) S K := by
  simp only [exX_eq, exsX_eq, oeX_eq, ocX_eq, itX_eq, sxX_eq, sxsX_eq, binX_eq, cmpX_eq, idxX_eq, bltX_eq, slcX_eq, isiX_eq, rcvX_eq, mthX_eq, tgX_eq, tgsX_eq, forX_eq, lcX_eq, itvX_eq, itlX_eq, zipX_eq, augX_eq, subX_eq, callX_eq, truX_eq] at *
  exact ⟨h, k⟩
theorem b_mod (k : K (.int (i % j)) S) (h : 0 < j) : binX .mod (.int i) (.int j) S K := by
  simp only [exX_eq, exsX_eq, oeX_eq, ocX_eq, itX_eq, sxX_eq, sxsX_eq, binX_eq, cmpX_eq, idxX_eq, bltX_eq, slcX_eq, isiX_eq, rcvX_eq, mthX_eq, tgX_eq, tgsX_eq, forX_eq, lcX_eq, itvX_eq, itlX_eq, zipX_eq, augX_eq, subX_eq, callX_eq, truX_eq] at *
  exact ⟨h, k⟩
theorem b_pow (k : K (.int (i ^ j.toNat)) S) (h : 0 ≤ j ∧ j ≤ 1000000 ∧ i.natAbs < 2 ^ 64) : binX .pow (.int i) (.int j) S K := by
  simp only [exX_eq, exsX_eq, oeX_eq, ocX_eq, itX_eq, sxX_eq, sxsX_eq, binX_eq, cmpX_eq, idxX_eq, bltX_eq, slcX_eq, isiX_eq, rcvX_eq, mthX_eq, tgX_eq, tgsX_eq, forX_eq, lcX_eq, itvX_eq, itlX_eq, zipX_eq, augX_eq, subX_eq, callX_eq, truX_eq] at *
  exact ⟨h, k⟩
theorem b_shl (k : K (.int (i * 2 ^ j.toNat)) S) (h : 0 ≤ j ∧ j ≤ 1000000 ∧ i.natAbs < 2 ^ 64) : binX .shl (.int i) (.int j) S K := by
  simp only [exX_eq, exsX_eq, oeX_eq, ocX_eq, itX_eq, sxX_eq, sxsX_eq, binX_eq, cmpX_eq, idxX_eq, bltX_eq, slcX_eq, isiX_eq, rcvX_eq, mthX_eq, tgX_eq, tgsX_eq, forX_eq, lcX_eq, itvX_eq, itlX_eq, zipX_eq, augX_eq, subX_eq, callX_eq, truX_eq] at *
  exact ⟨h, k⟩
theorem b_shr (k : K (.int (i / 2 ^ j.toNat)) S) (h : 0 ≤ j) : binX .shr (.int i) (.int j) S K := by
  simp only [exX_eq, exsX_eq, oeX_eq, ocX_eq, itX_eq, sxX_eq, sxsX_eq, binX_eq, cmpX_eq, idxX_eq, bltX_eq, slcX_eq, isiX_eq, rcvX_eq, mthX_eq, tgX_eq, tgsX_eq, forX_eq, lcX_eq, itvX_eq, itlX_eq, zipX_eq, augX_eq, subX_eq, callX_eq, truX_eq] at *
  exact ⟨h, k⟩
theorem b_and (k : K (.int (band i j)) S) : binX .and (.int i) (.int j) S K := by
  simp only [exX_eq, exsX_eq, oeX_eq, ocX_eq, itX_eq, sxX_eq, sxsX_eq, binX_eq, cmpX_eq, idxX_eq, bltX_eq, slcX_eq, isiX_eq, rcvX_eq, mthX_eq, tgX_eq, tgsX_eq, forX_eq, lcX_eq, itvX_eq, itlX_eq, zipX_eq, augX_eq, subX_eq, callX_eq, truX_eq] at *
  exact k
theorem b_or (k : K (.int (bor i j)) S) : binX .or (.int i) (.int j) S K := by
  simp only [exX_eq, exsX_eq, oeX_eq, ocX_eq, itX_eq, sxX_eq, sxsX_eq, binX_eq, cmpX_eq, idxX_eq, bltX_eq, slcX_eq, isiX_eq, rcvX_eq, mthX_eq, tgX_eq, tgsX_eq, forX_eq, lcX_eq, itvX_eq, itlX_eq, zipX_eq, augX_eq, subX_eq, callX_eq, truX_eq] at *
  exact k
theorem b_xor (k : K (.int (bxor i j)) S) : binX .xor (.int i) (.int j) S K := by
  simp only [exX_eq, exsX_eq, oeX_eq, ocX_eq, itX_eq, sxX_eq, sxsX_eq, binX_eq, cmpX_eq, idxX_eq, bltX_eq, slcX_eq, isiX_eq, rcvX_eq, mthX_eq, tgX_eq, tgsX_eq, forX_eq, lcX_eq, itvX_eq, itlX_eq, zipX_eq, augX_eq, subX_eq, callX_eq, truX_eq] at *
  exact k
theorem b_addT {l m : List D} (k : K (.tup (l ++ m)) S) (h : l.length + m.length ≤ line) : binX .add (.tup l) (.tup m) S K := by
  simp only [exX_eq, exsX_eq, oeX_eq, ocX_eq, itX_eq, sxX_eq, sxsX_eq, binX_eq, cmpX_eq, idxX_eq, bltX_eq, slcX_eq, isiX_eq, rcvX_eq, mthX_eq, tgX_eq, tgsX_eq, forX_eq, lcX_eq, itvX_eq, itlX_eq, zipX_eq, augX_eq, subX_eq, callX_eq, truX_eq] at *
  exact ⟨h, k⟩
theorem b_addL {l m : List D} {a b : Nat} (h1 : S a = some (.lst l)) (h2 : S b = some (.lst m)) (k : ∀ p, S p = none → K (.ref p) (put S p (.lst (l ++ m)))) (h : l.length + m.length ≤ line) : binX .add (.ref a) (.ref b) S K := by
  simp only [exX_eq, exsX_eq, oeX_eq, ocX_eq, itX_eq, sxX_eq, sxsX_eq, binX_eq, cmpX_eq, idxX_eq, bltX_eq, slcX_eq, isiX_eq, rcvX_eq, mthX_eq, tgX_eq, tgsX_eq, forX_eq, lcX_eq, itvX_eq, itlX_eq, zipX_eq, augX_eq, subX_eq, callX_eq, truX_eq] at *
  exact ⟨l, m, h1, h2, h, k⟩
theorem b_mulL {l : List D} {a : Nat} (h1 : S a = some (.lst l)) (h2 : j < 2 ^ 62 ∧ -(2 ^ 62) < j) (h : l.length * j.toNat ≤ line) (k : ∀ p, S p = none → K (.ref p) (put S p (.lst (List.replicate j.toNat l).flatten))) : binX .mul (.ref a) (.int j) S K := by
  simp only [exX_eq, exsX_eq, oeX_eq, ocX_eq, itX_eq, sxX_eq, sxsX_eq, binX_eq, cmpX_eq, idxX_eq, bltX_eq, slcX_eq, isiX_eq, rcvX_eq, mthX_eq, tgX_eq, tgsX_eq, forX_eq, lcX_eq, itvX_eq, itlX_eq, zipX_eq, augX_eq, subX_eq, callX_eq, truX_eq] at *
  exact ⟨l, h1, h2.1, h2.2, h, k⟩
theorem a_int {op : Bop} (k : binX op (.int i) (.int j) S K) (h : op ≠ .pow) : augX op (.int i) (.int j) S K := by
  simp only [exX_eq, exsX_eq, oeX_eq, ocX_eq, itX_eq, sxX_eq, sxsX_eq, binX_eq, cmpX_eq, idxX_eq, bltX_eq, slcX_eq, isiX_eq, rcvX_eq, mthX_eq, tgX_eq, tgsX_eq, forX_eq, lcX_eq, itvX_eq, itlX_eq, zipX_eq, augX_eq, subX_eq, callX_eq, truX_eq] at *
  exact ⟨h, k⟩
theorem a_lst {l m : List D} {a b : Nat} (h1 : S a = some (.lst l)) (h2 : S b = some (.lst m)) (h : l.length + m.length ≤ line) (k : K (.ref a) (put S a (.lst (l ++ m)))) : augX .add (.ref a) (.ref b) S K := by
  simp only [exX_eq, exsX_eq, oeX_eq, ocX_eq, itX_eq, sxX_eq, sxsX_eq, binX_eq, cmpX_eq, idxX_eq, bltX_eq, slcX_eq, isiX_eq, rcvX_eq, mthX_eq, tgX_eq, tgsX_eq, forX_eq, lcX_eq, itvX_eq, itlX_eq, zipX_eq, augX_eq, subX_eq, callX_eq, truX_eq] at *
  exact ⟨rfl, l, m, h1, h2, h, k⟩
end
section
variable {K : Bool → Prop} {i j : Int}
theorem c_lt (k : K (decide (i < j))) : cmpX .lt (.int i) (.int j) S K := by
  simp only [exX_eq, exsX_eq, oeX_eq, ocX_eq, itX_eq, sxX_eq, sxsX_eq, binX_eq, cmpX_eq, idxX_eq, bltX_eq, slcX_eq, isiX_eq, rcvX_eq, mthX_eq, tgX_eq, tgsX_eq, forX_eq, lcX_eq, itvX_eq, itlX_eq, zipX_eq, augX_eq, subX_eq, callX_eq, truX_eq] at *
  exact k
theorem c_le (k : K (decide (i ≤ j))) : cmpX .le (.int i) (.int j) S K := by
  simp only [exX_eq, exsX_eq, oeX_eq, ocX_eq, itX_eq, sxX_eq, sxsX_eq, binX_eq, cmpX_eq, idxX_eq, bltX_eq, slcX_eq, isiX_eq, rcvX_eq, mthX_eq, tgX_eq, tgsX_eq, forX_eq, lcX_eq, itvX_eq, itlX_eq, zipX_eq, augX_eq, subX_eq, callX_eq, truX_eq] at *
  exact k
theorem c_gt (k : K (decide (j < i))) : cmpX .gt (.int i) (.int j) S K := by
  simp only [exX_eq, exsX_eq, oeX_eq, ocX_eq, itX_eq, sxX_eq, sxsX_eq, binX_eq, cmpX_eq, idxX_eq, bltX_eq, slcX_eq, isiX_eq, rcvX_eq, mthX_eq, tgX_eq, tgsX_eq, forX_eq, lcX_eq, itvX_eq, itlX_eq, zipX_eq, augX_eq, subX_eq, callX_eq, truX_eq] at *
  exact k
theorem c_ge (k : K (decide (j ≤ i))) : cmpX .ge (.int i) (.int j) S K := by
  simp only [exX_eq, exsX_eq, oeX_eq, ocX_eq, itX_eq, sxX_eq, sxsX_eq, binX_eq, cmpX_eq, idxX_eq, bltX_eq, slcX_eq, isiX_eq, rcvX_eq, mthX_eq, tgX_eq, tgsX_eq, forX_eq, lcX_eq, itvX_eq, itlX_eq, zipX_eq, augX_eq, subX_eq, callX_eq, truX_eq] at *
  exact k
theorem c_eqi (k : K (i == j)) : cmpX .eq (.int i) (.int j) S K := by
  simp only [exX_eq, exsX_eq, oeX_eq, ocX_eq, itX_eq, sxX_eq, sxsX_eq, binX_eq, cmpX_eq, idxX_eq, bltX_eq, slcX_eq, isiX_eq, rcvX_eq, mthX_eq, tgX_eq, tgsX_eq, forX_eq, lcX_eq, itvX_eq, itlX_eq, zipX_eq, augX_eq, subX_eq, callX_eq, truX_eq] at *
  exact ⟨.int i, .int j, rfl, rfl, rfl, k⟩
theorem c_nei (k : K (!(i == j))) : cmpX .ne (.int i) (.int j) S K := by
  simp only [exX_eq, exsX_eq, oeX_eq, ocX_eq, itX_eq, sxX_eq, sxsX_eq, binX_eq, cmpX_eq, idxX_eq, bltX_eq, slcX_eq, isiX_eq, rcvX_eq, mthX_eq, tgX_eq, tgsX_eq, forX_eq, lcX_eq, itvX_eq, itlX_eq, zipX_eq, augX_eq, subX_eq, callX_eq, truX_eq] at *
  exact ⟨.int i, .int j, rfl, rfl, rfl, k⟩
theorem c_eqb {i j : Bool} (k : K (i == j)) : cmpX .eq (.bl i) (.bl j) S K := by
  simp only [exX_eq, exsX_eq, oeX_eq, ocX_eq, itX_eq, sxX_eq, sxsX_eq, binX_eq, cmpX_eq, idxX_eq, bltX_eq, slcX_eq, isiX_eq, rcvX_eq, mthX_eq, tgX_eq, tgsX_eq, forX_eq, lcX_eq, itvX_eq, itlX_eq, zipX_eq, augX_eq, subX_eq, callX_eq, truX_eq] at *
  exact ⟨.bl i, .bl j, rfl, rfl, rfl, k⟩
theorem c_neb {i j : Bool} (k : K (!(i == j))) : cmpX .ne (.bl i) (.bl j) S K := by
  simp only [exX_eq, exsX_eq, oeX_eq, ocX_eq, itX_eq, sxX_eq, sxsX_eq, binX_eq, cmpX_eq, idxX_eq, bltX_eq, slcX_eq, isiX_eq, rcvX_eq, mthX_eq, tgX_eq, tgsX_eq, forX_eq, lcX_eq, itvX_eq, itlX_eq, zipX_eq, augX_eq, subX_eq, callX_eq, truX_eq] at *
  exact ⟨.bl i, .bl j, rfl, rfl, rfl, k⟩
end
/-! subscripts, builtins, methods, stores, targets -/
theorem ix_tup {l : List D} {i : Int} {d : D} {K : D → Prop} (h : nth l i = some d) (k : K d) : idxX (.tup l) (.int i) S K := by
  simp only [exX_eq, exsX_eq, oeX_eq, ocX_eq, itX_eq, sxX_eq, sxsX_eq, binX_eq, cmpX_eq, idxX_eq, bltX_eq, slcX_eq, isiX_eq, rcvX_eq, mthX_eq, tgX_eq, tgsX_eq, forX_eq, lcX_eq, itvX_eq, itlX_eq, zipX_eq, augX_eq, subX_eq, callX_eq, truX_eq] at *
  exact ⟨d, h, k⟩
theorem ix_lst {n : Nat} {l : List D} {i : Int} {d : D} {K : D → Prop} (hn : S n = some (.lst l)) (h : nth l i = some d) (k : K d) : idxX (.ref n) (.int i) S K := by
  simp only [exX_eq, exsX_eq, oeX_eq, ocX_eq, itX_eq, sxX_eq, sxsX_eq, binX_eq, cmpX_eq, idxX_eq, bltX_eq, slcX_eq, isiX_eq, rcvX_eq, mthX_eq, tgX_eq, tgsX_eq, forX_eq, lcX_eq, itvX_eq, itlX_eq, zipX_eq, augX_eq, subX_eq, callX_eq, truX_eq] at *
  simp only [idxW, hn]
  exact ⟨d, h, k⟩
theorem su_lst {n : Nat} {l : List D} {i : Int} {j : Nat} {v : D} {K : Sto → Prop} (hn : S n = some (.lst l)) (h : ixn l.length i = some j) (k : K (put S n (.lst (l.set j v)))) : subX (.ref n) (.int i) v S K := by
  simp only [exX_eq, exsX_eq, oeX_eq, ocX_eq, itX_eq, sxX_eq, sxsX_eq, binX_eq, cmpX_eq, idxX_eq, bltX_eq, slcX_eq, isiX_eq, rcvX_eq, mthX_eq, tgX_eq, tgsX_eq, forX_eq, lcX_eq, itvX_eq, itlX_eq, zipX_eq, augX_eq, subX_eq, callX_eq, truX_eq] at *
  simp only [subW, hn]
  exact ⟨j, h, k⟩
theorem sl_lst {n : Nat} {l : List D} {lo hi : Option Int} (hn : S n = some (.lst l)) (k : ∀ p, S p = none → K (.ref p) (put S p (.lst (cut l lo hi)))) : slcX (.ref n) lo hi S K := by
  simp only [exX_eq, exsX_eq, oeX_eq, ocX_eq, itX_eq, sxX_eq, sxsX_eq, binX_eq, cmpX_eq, idxX_eq, bltX_eq, slcX_eq, isiX_eq, rcvX_eq, mthX_eq, tgX_eq, tgsX_eq, forX_eq, lcX_eq, itvX_eq, itlX_eq, zipX_eq, augX_eq, subX_eq, callX_eq, truX_eq] at *
  simpa only [slcW, hn] using k
theorem sl_tup {l : List D} {lo hi : Option Int} (k : K (.tup (cut l lo hi)) S) : slcX (.tup l) lo hi S K := by
  simp only [exX_eq, exsX_eq, oeX_eq, ocX_eq, itX_eq, sxX_eq, sxsX_eq, binX_eq, cmpX_eq, idxX_eq, bltX_eq, slcX_eq, isiX_eq, rcvX_eq, mthX_eq, tgX_eq, tgsX_eq, forX_eq, lcX_eq, itvX_eq, itlX_eq, zipX_eq, augX_eq, subX_eq, callX_eq, truX_eq] at *
  exact k
theorem bl_lenT {l : List D} (k : K (.int l.length) S) : bltX .len [.tup l] S K := by
  simp only [exX_eq, exsX_eq, oeX_eq, ocX_eq, itX_eq, sxX_eq, sxsX_eq, binX_eq, cmpX_eq, idxX_eq, bltX_eq, slcX_eq, isiX_eq, rcvX_eq, mthX_eq, tgX_eq, tgsX_eq, forX_eq, lcX_eq, itvX_eq, itlX_eq, zipX_eq, augX_eq, subX_eq, callX_eq, truX_eq] at *
  exact k
theorem bl_lenL {n : Nat} {l : List D} (hn : S n = some (.lst l)) (k : K (.int l.length) S) : bltX .len [.ref n] S K := by
  simp only [exX_eq, exsX_eq, oeX_eq, ocX_eq, itX_eq, sxX_eq, sxsX_eq, binX_eq, cmpX_eq, idxX_eq, bltX_eq, slcX_eq, isiX_eq, rcvX_eq, mthX_eq, tgX_eq, tgsX_eq, forX_eq, lcX_eq, itvX_eq, itlX_eq, zipX_eq, augX_eq, subX_eq, callX_eq, truX_eq] at *
  simpa only [bltW, hn] using k
theorem bl_abs {i : Int} (k : K (.int i.natAbs) S) : bltX .abs [.int i] S K := by
  simp only [exX_eq, exsX_eq, oeX_eq, ocX_eq, itX_eq, sxX_eq, sxsX_eq, binX_eq, cmpX_eq, idxX_eq, bltX_eq, slcX_eq, isiX_eq, rcvX_eq, mthX_eq, tgX_eq, tgsX_eq, forX_eq, lcX_eq, itvX_eq, itlX_eq, zipX_eq, augX_eq, subX_eq, callX_eq, truX_eq] at *
  show K (.int (if i < 0 then -i else i)) S
  rw [show (if i < 0 then -i else i) = (i.natAbs : Int) by split <;> omega]
  exact k
theorem bl_int {i : Int} (k : K (.int i) S) : bltX .int [.int i] S K := by
  simp only [exX_eq, exsX_eq, oeX_eq, ocX_eq, itX_eq, sxX_eq, sxsX_eq, binX_eq, cmpX_eq, idxX_eq, bltX_eq, slcX_eq, isiX_eq, rcvX_eq, mthX_eq, tgX_eq, tgsX_eq, forX_eq, lcX_eq, itvX_eq, itlX_eq, zipX_eq, augX_eq, subX_eq, callX_eq, truX_eq] at *
  exact k
theorem bl_intB {i : Bool} (k : K (.int (b2 i)) S) : bltX .int [.bl i] S K := by
  simp only [exX_eq, exsX_eq, oeX_eq, ocX_eq, itX_eq, sxX_eq, sxsX_eq, binX_eq, cmpX_eq, idxX_eq, bltX_eq, slcX_eq, isiX_eq, rcvX_eq, mthX_eq, tgX_eq, tgsX_eq, forX_eq, lcX_eq, itvX_eq, itlX_eq, zipX_eq, augX_eq, subX_eq, callX_eq, truX_eq] at *
  exact k
theorem bl_bool {i : Int} (k : K (.bl (i != 0)) S) : bltX .bool [.int i] S K := by
  simp only [exX_eq, exsX_eq, oeX_eq, ocX_eq, itX_eq, sxX_eq, sxsX_eq, binX_eq, cmpX_eq, idxX_eq, bltX_eq, slcX_eq, isiX_eq, rcvX_eq, mthX_eq, tgX_eq, tgsX_eq, forX_eq, lcX_eq, itvX_eq, itlX_eq, zipX_eq, augX_eq, subX_eq, callX_eq, truX_eq] at *
  exact k
theorem bl_boolB {i : Bool} (k : K (.bl i) S) : bltX .bool [.bl i] S K := by
  simp only [exX_eq, exsX_eq, oeX_eq, ocX_eq, itX_eq, sxX_eq, sxsX_eq, binX_eq, cmpX_eq, idxX_eq, bltX_eq, slcX_eq, isiX_eq, rcvX_eq, mthX_eq, tgX_eq, tgsX_eq, forX_eq, lcX_eq, itvX_eq, itlX_eq, zipX_eq, augX_eq, subX_eq, callX_eq, truX_eq] at *
  exact k
theorem bl_tupL {n : Nat} {l : List D} (hn : S n = some (.lst l)) (k : K (.tup l) S) : bltX .tuple [.ref n] S K := by
  simp only [exX_eq, exsX_eq, oeX_eq, ocX_eq, itX_eq, sxX_eq, sxsX_eq, binX_eq, cmpX_eq, idxX_eq, bltX_eq, slcX_eq, isiX_eq, rcvX_eq, mthX_eq, tgX_eq, tgsX_eq, forX_eq, lcX_eq, itvX_eq, itlX_eq, zipX_eq, augX_eq, subX_eq, callX_eq, truX_eq] at *
  simpa only [bltW, hn] using k
theorem bl_tupT {l : List D} (k : K (.tup l) S) : bltX .tuple [.tup l] S K := by
  simp only [exX_eq, exsX_eq, oeX_eq, ocX_eq, itX_eq, sxX_eq, sxsX_eq, binX_eq, cmpX_eq, idxX_eq, bltX_eq, slcX_eq, isiX_eq, rcvX_eq, mthX_eq, tgX_eq, tgsX_eq, forX_eq, lcX_eq, itvX_eq, itlX_eq, zipX_eq, augX_eq, subX_eq, callX_eq, truX_eq] at *
  exact k
theorem bl_lstT {l : List D} (k : ∀ p, S p = none → K (.ref p) (put S p (.lst l))) : bltX .list [.tup l] S K := by
  simp only [exX_eq, exsX_eq, oeX_eq, ocX_eq, itX_eq, sxX_eq, sxsX_eq, binX_eq, cmpX_eq, idxX_eq, bltX_eq, slcX_eq, isiX_eq, rcvX_eq, mthX_eq, tgX_eq, tgsX_eq, forX_eq, lcX_eq, itvX_eq, itlX_eq, zipX_eq, augX_eq, subX_eq, callX_eq, truX_eq] at *
  exact k
theorem bl_lstL {n : Nat} {l : List D} (hn : S n = some (.lst l)) (k : ∀ p, S p = none → K (.ref p) (put S p (.lst l))) : bltX .list [.ref n] S K := by
  simp only [exX_eq, exsX_eq, oeX_eq, ocX_eq, itX_eq, sxX_eq, sxsX_eq, binX_eq, cmpX_eq, idxX_eq, bltX_eq, slcX_eq, isiX_eq, rcvX_eq, mthX_eq, tgX_eq, tgsX_eq, forX_eq, lcX_eq, itvX_eq, itlX_eq, zipX_eq, augX_eq, subX_eq, callX_eq, truX_eq] at *
  simpa only [bltW, hn] using k
theorem bl_str {i : Int} (k : K (.str (toString i : String)) S) (h : i.natAbs.log2 < 1920) : bltX .str [.int i] S K := by
  simp only [exX_eq, exsX_eq, oeX_eq, ocX_eq, itX_eq, sxX_eq, sxsX_eq, binX_eq, cmpX_eq, idxX_eq, bltX_eq, slcX_eq, isiX_eq, rcvX_eq, mthX_eq, tgX_eq, tgsX_eq, forX_eq, lcX_eq, itvX_eq, itlX_eq, zipX_eq, augX_eq, subX_eq, callX_eq, truX_eq] at *
  exact ⟨h, k⟩
theorem mt_append {n : Nat} {l : List D} {x : D} (hn : S n = some (.lst l)) (k : K .non (put S n (.lst (l ++ [x])))) (h : l.length < line) : mthX .append (.ref n) [x] S K := by
  simp only [exX_eq, exsX_eq, oeX_eq, ocX_eq, itX_eq, sxX_eq, sxsX_eq, binX_eq, cmpX_eq, idxX_eq, bltX_eq, slcX_eq, isiX_eq, rcvX_eq, mthX_eq, tgX_eq, tgsX_eq, forX_eq, lcX_eq, itvX_eq, itlX_eq, zipX_eq, augX_eq, subX_eq, callX_eq, truX_eq] at *
  simp only [mthW, hn]
  exact ⟨h, k⟩
theorem mt_extendL {n m : Nat} {l r : List D} (hn : S n = some (.lst l)) (hm : S m = some (.lst r)) (k : K .non (put S n (.lst (l ++ r)))) (h : l.length + r.length ≤ line) : mthX .extend (.ref n) [.ref m] S K := by
  simp only [exX_eq, exsX_eq, oeX_eq, ocX_eq, itX_eq, sxX_eq, sxsX_eq, binX_eq, cmpX_eq, idxX_eq, bltX_eq, slcX_eq, isiX_eq, rcvX_eq, mthX_eq, tgX_eq, tgsX_eq, forX_eq, lcX_eq, itvX_eq, itlX_eq, zipX_eq, augX_eq, subX_eq, callX_eq, truX_eq] at *
  simp only [mthW, hn]
  exact ⟨r, by simp only [seq?, hm], h, k⟩
theorem rcv_l {m : Mt} {n : Nat} {l : List D} {P : Prop} (hn : S n = some (.lst l)) (h : m ≠ .bitlen ∧ m ≠ .get2) (k : P) : rcvX m (.ref n) S ∧ P := by
  simp only [exX_eq, exsX_eq, oeX_eq, ocX_eq, itX_eq, sxX_eq, sxsX_eq, binX_eq, cmpX_eq, idxX_eq, bltX_eq, slcX_eq, isiX_eq, rcvX_eq, mthX_eq, tgX_eq, tgsX_eq, forX_eq, lcX_eq, itvX_eq, itlX_eq, zipX_eq, augX_eq, subX_eq, callX_eq, truX_eq] at *
  refine ⟨?_, k⟩
  cases m <;> first | exact absurd rfl h.1 | exact absurd rfl h.2 | simp only [rcvW, hn]
theorem tg_nm {i : Nat} {d : D} {K : Loc → Prop} (k : K (σ.set i (some d))) : tgX (.nm i) d σ K := by
  simp only [exX_eq, exsX_eq, oeX_eq, ocX_eq, itX_eq, sxX_eq, sxsX_eq, binX_eq, cmpX_eq, idxX_eq, bltX_eq, slcX_eq, isiX_eq, rcvX_eq, mthX_eq, tgX_eq, tgsX_eq, forX_eq, lcX_eq, itvX_eq, itlX_eq, zipX_eq, augX_eq, subX_eq, callX_eq, truX_eq] at *
  exact k
theorem tg_tp {ts : Tgs} {l : List D} {K : Loc → Prop} (k : tgsX ts l σ K) : tgX (.tp ts) (.tup l) σ K := by
  simp only [exX_eq, exsX_eq, oeX_eq, ocX_eq, itX_eq, sxX_eq, sxsX_eq, binX_eq, cmpX_eq, idxX_eq, bltX_eq, slcX_eq, isiX_eq, rcvX_eq, mthX_eq, tgX_eq, tgsX_eq, forX_eq, lcX_eq, itvX_eq, itlX_eq, zipX_eq, augX_eq, subX_eq, callX_eq, truX_eq] at *
  exact k
theorem tgs_nil {K : Loc → Prop} (k : K σ) : tgsX .nil [] σ K := by
  simp only [exX_eq, exsX_eq, oeX_eq, ocX_eq, itX_eq, sxX_eq, sxsX_eq, binX_eq, cmpX_eq, idxX_eq, bltX_eq, slcX_eq, isiX_eq, rcvX_eq, mthX_eq, tgX_eq, tgsX_eq, forX_eq, lcX_eq, itvX_eq, itlX_eq, zipX_eq, augX_eq, subX_eq, callX_eq, truX_eq] at *
  exact k
theorem tgs_cons {t : Tg} {ts : Tgs} {d : D} {r : List D} {K : Loc → Prop} (k : tgX t d σ fun σ' => tgsX ts r σ' K) : tgsX (.cons t ts) (d :: r) σ K := by
  simp only [exX_eq, exsX_eq, oeX_eq, ocX_eq, itX_eq, sxX_eq, sxsX_eq, binX_eq, cmpX_eq, idxX_eq, bltX_eq, slcX_eq, isiX_eq, rcvX_eq, mthX_eq, tgX_eq, tgsX_eq, forX_eq, lcX_eq, itvX_eq, itlX_eq, zipX_eq, augX_eq, subX_eq, callX_eq, truX_eq] at *
  exact k
theorem fw_cons {chk : Sto → Prop} {body : D → Loc → Sto → (Loc → Sto → Prop) → Prop} {d : D} {r : List D} {K : Loc → Sto → Prop} (h : chk S) (k : body d σ S fun σ' S' => forX chk body r σ' S' K) : forX chk body (d :: r) σ S K := by
  simp only [exX_eq, exsX_eq, oeX_eq, ocX_eq, itX_eq, sxX_eq, sxsX_eq, binX_eq, cmpX_eq, idxX_eq, bltX_eq, slcX_eq, isiX_eq, rcvX_eq, mthX_eq, tgX_eq, tgsX_eq, forX_eq, lcX_eq, itvX_eq, itlX_eq, zipX_eq, augX_eq, subX_eq, callX_eq, truX_eq] at *
  exact ⟨h, k⟩
theorem fw_nil {chk : Sto → Prop} {body : D → Loc → Sto → (Loc → Sto → Prop) → Prop} {K : Loc → Sto → Prop} (h : chk S) (k : K σ S) : forX chk body [] σ S K := by
  simp only [exX_eq, exsX_eq, oeX_eq, ocX_eq, itX_eq, sxX_eq, sxsX_eq, binX_eq, cmpX_eq, idxX_eq, bltX_eq, slcX_eq, isiX_eq, rcvX_eq, mthX_eq, tgX_eq, tgsX_eq, forX_eq, lcX_eq, itvX_eq, itlX_eq, zipX_eq, augX_eq, subX_eq, callX_eq, truX_eq] at *
  exact ⟨h, k⟩
def isQ : D → Ty → Option Bool
  | .non, _ => some false
  | .bl _, .bool => some true
  | .bl _, .int => some true
  | .bl _, _ => some false
  | .int _, .int => some true
  | .int _, _ => some false
  | .str _, .str => some true
  | .str _, _ => some false
  | .tup _, .tuple => some true
  | .tup _, _ => some false
  | _, _ => none
theorem ii {a : D} {t : Ty} {c : Bool} {K : Bool → Prop} (h : isQ a t = some c) (k : K c) : isiX S a t K := by
  simp only [exX_eq, exsX_eq, oeX_eq, ocX_eq, itX_eq, sxX_eq, sxsX_eq, binX_eq, cmpX_eq, idxX_eq, bltX_eq, slcX_eq, isiX_eq, rcvX_eq, mthX_eq, tgX_eq, tgsX_eq, forX_eq, lcX_eq, itvX_eq, itlX_eq, zipX_eq, augX_eq, subX_eq, callX_eq, truX_eq] at *
  cases a <;> cases t <;> cases h <;> exact k
theorem ii_lst {n : Nat} {l : List D} {t : Ty} {c : Bool} {K : Bool → Prop} (hn : S n = some (.lst l)) (h : decide (t = .list) = c) (k : K c) : isiX S (.ref n) t K := by
  simp only [exX_eq, exsX_eq, oeX_eq, ocX_eq, itX_eq, sxX_eq, sxsX_eq, binX_eq, cmpX_eq, idxX_eq, bltX_eq, slcX_eq, isiX_eq, rcvX_eq, mthX_eq, tgX_eq, tgsX_eq, forX_eq, lcX_eq, itvX_eq, itlX_eq, zipX_eq, augX_eq, subX_eq, callX_eq, truX_eq] at *
  subst h
  simpa only [isiD, hn] using k
/-! statements -/
section
variable {nx bk ct : Loc → Sto → Prop} {rt : DK} {ex : Xc → Loc → Sto → Prop}
theorem ss_nil' (k : nx σ S) : sxsX C .nil σ S ⟨nx, rt, bk, ct, ex⟩ := by
  simp only [exX_eq, exsX_eq, oeX_eq, ocX_eq, itX_eq, sxX_eq, sxsX_eq, binX_eq, cmpX_eq, idxX_eq, bltX_eq, slcX_eq, isiX_eq, rcvX_eq, mthX_eq, tgX_eq, tgsX_eq, forX_eq, lcX_eq, itvX_eq, itlX_eq, zipX_eq, augX_eq, subX_eq, callX_eq, truX_eq] at *
  exact k
theorem ss_cons' {s ss} (k : sxX C s σ S ⟨fun σ' S' => sxsX C ss σ' S' ⟨nx, rt, bk, ct, ex⟩, rt, bk, ct, ex⟩) : sxsX C (.cons s ss) σ S ⟨nx, rt, bk, ct, ex⟩ := by
  simp only [exX_eq, exsX_eq, oeX_eq, ocX_eq, itX_eq, sxX_eq, sxsX_eq, binX_eq, cmpX_eq, idxX_eq, bltX_eq, slcX_eq, isiX_eq, rcvX_eq, mthX_eq, tgX_eq, tgsX_eq, forX_eq, lcX_eq, itvX_eq, itlX_eq, zipX_eq, augX_eq, subX_eq, callX_eq, truX_eq] at *
  exact k
theorem st_asg' {t e} (k : exX C e σ (fun x S => ex x σ S) S fun x S1 => tgX t x σ fun σ' => nx σ' S1) : sxX C (.asg (.tg t) e) σ S ⟨nx, rt, bk, ct, ex⟩ := by
  simp only [exX_eq, exsX_eq, oeX_eq, ocX_eq, itX_eq, sxX_eq, sxsX_eq, binX_eq, cmpX_eq, idxX_eq, bltX_eq, slcX_eq, isiX_eq, rcvX_eq, mthX_eq, tgX_eq, tgsX_eq, forX_eq, lcX_eq, itvX_eq, itlX_eq, zipX_eq, augX_eq, subX_eq, callX_eq, truX_eq] at *
  exact k
theorem st_sub' {a i e} (k : exX C e σ (fun x S => ex x σ S) S fun x S1 => exX C a σ (fun x S => ex x σ S) S1 fun o S2 => exX C i σ (fun x S => ex x σ S) S2 fun k S3 => subX o k x S3 fun S4 => nx σ S4) : sxX C (.asg (.sub a i) e) σ S ⟨nx, rt, bk, ct, ex⟩ := by
  simp only [exX_eq, exsX_eq, oeX_eq, ocX_eq, itX_eq, sxX_eq, sxsX_eq, binX_eq, cmpX_eq, idxX_eq, bltX_eq, slcX_eq, isiX_eq, rcvX_eq, mthX_eq, tgX_eq, tgsX_eq, forX_eq, lcX_eq, itvX_eq, itlX_eq, zipX_eq, augX_eq, subX_eq, callX_eq, truX_eq] at *
  exact k
theorem st_aug' {i op e} {x : D} (k : exX C e σ (fun x S => ex x σ S) S fun y S1 => augX op x y S1 fun z S2 => nx (σ.set i (some z)) S2) (h : σ[i]? = some (some x)) : sxX C (.aug i op e) σ S ⟨nx, rt, bk, ct, ex⟩ := by
  simp only [exX_eq, exsX_eq, oeX_eq, ocX_eq, itX_eq, sxX_eq, sxsX_eq, binX_eq, cmpX_eq, idxX_eq, bltX_eq, slcX_eq, isiX_eq, rcvX_eq, mthX_eq, tgX_eq, tgsX_eq, forX_eq, lcX_eq, itvX_eq, itlX_eq, zipX_eq, augX_eq, subX_eq, callX_eq, truX_eq] at *
  exact ⟨x, h, k⟩
theorem st_augs' {a i op e} (k : exX C a σ (fun x S => ex x σ S) S fun o S1 => exX C i σ (fun x S => ex x σ S) S1 fun k S2 => idxX o k S2 fun x => exX C e σ (fun x S => ex x σ S) S2 fun y S3 => augX op x y S3 fun z S4 => subX o k z S4 fun S5 => nx σ S5) : sxX C (.augs a i op e) σ S ⟨nx, rt, bk, ct, ex⟩ := by
  simp only [exX_eq, exsX_eq, oeX_eq, ocX_eq, itX_eq, sxX_eq, sxsX_eq, binX_eq, cmpX_eq, idxX_eq, bltX_eq, slcX_eq, isiX_eq, rcvX_eq, mthX_eq, tgX_eq, tgsX_eq, forX_eq, lcX_eq, itvX_eq, itlX_eq, zipX_eq, augX_eq, subX_eq, callX_eq, truX_eq] at *
  exact k
theorem st_exp' {e} (k : exX C e σ (fun x S => ex x σ S) S fun _ S1 => nx σ S1) : sxX C (.exp e) σ S ⟨nx, rt, bk, ct, ex⟩ := by
  simp only [exX_eq, exsX_eq, oeX_eq, ocX_eq, itX_eq, sxX_eq, sxsX_eq, binX_eq, cmpX_eq, idxX_eq, bltX_eq, slcX_eq, isiX_eq, rcvX_eq, mthX_eq, tgX_eq, tgsX_eq, forX_eq, lcX_eq, itvX_eq, itlX_eq, zipX_eq, augX_eq, subX_eq, callX_eq, truX_eq] at *
  exact k
theorem st_ret' {e} (k : exX C e σ (fun x S => ex x σ S) S rt) : sxX C (.ret e) σ S ⟨nx, rt, bk, ct, ex⟩ := by
  simp only [exX_eq, exsX_eq, oeX_eq, ocX_eq, itX_eq, sxX_eq, sxsX_eq, binX_eq, cmpX_eq, idxX_eq, bltX_eq, slcX_eq, isiX_eq, rcvX_eq, mthX_eq, tgX_eq, tgsX_eq, forX_eq, lcX_eq, itvX_eq, itlX_eq, zipX_eq, augX_eq, subX_eq, callX_eq, truX_eq] at *
  exact k
theorem st_retn' (k : rt .non S) : sxX C .retn σ S ⟨nx, rt, bk, ct, ex⟩ := by
  simp only [exX_eq, exsX_eq, oeX_eq, ocX_eq, itX_eq, sxX_eq, sxsX_eq, binX_eq, cmpX_eq, idxX_eq, bltX_eq, slcX_eq, isiX_eq, rcvX_eq, mthX_eq, tgX_eq, tgsX_eq, forX_eq, lcX_eq, itvX_eq, itlX_eq, zipX_eq, augX_eq, subX_eq, callX_eq, truX_eq] at *
  exact k
theorem st_if' {c a b} (k : exX C c σ (fun x S => ex x σ S) S fun x S1 => truX S1 x fun k => if k = true then sxsX C a σ S1 ⟨nx, rt, bk, ct, ex⟩ else sxsX C b σ S1 ⟨nx, rt, bk, ct, ex⟩) : sxX C (.iff c a b) σ S ⟨nx, rt, bk, ct, ex⟩ := by
  simp only [exX_eq, exsX_eq, oeX_eq, ocX_eq, itX_eq, sxX_eq, sxsX_eq, binX_eq, cmpX_eq, idxX_eq, bltX_eq, slcX_eq, isiX_eq, rcvX_eq, mthX_eq, tgX_eq, tgsX_eq, forX_eq, lcX_eq, itvX_eq, itlX_eq, zipX_eq, augX_eq, subX_eq, callX_eq, truX_eq] at *
  exact k
theorem st_brk' (k : bk σ S) : sxX C .brk σ S ⟨nx, rt, bk, ct, ex⟩ := by
  simp only [exX_eq, exsX_eq, oeX_eq, ocX_eq, itX_eq, sxX_eq, sxsX_eq, binX_eq, cmpX_eq, idxX_eq, bltX_eq, slcX_eq, isiX_eq, rcvX_eq, mthX_eq, tgX_eq, tgsX_eq, forX_eq, lcX_eq, itvX_eq, itlX_eq, zipX_eq, augX_eq, subX_eq, callX_eq, truX_eq] at *
  exact k
theorem st_cnt' (k : ct σ S) : sxX C .cnt σ S ⟨nx, rt, bk, ct, ex⟩ := by
  simp only [exX_eq, exsX_eq, oeX_eq, ocX_eq, itX_eq, sxX_eq, sxsX_eq, binX_eq, cmpX_eq, idxX_eq, bltX_eq, slcX_eq, isiX_eq, rcvX_eq, mthX_eq, tgX_eq, tgsX_eq, forX_eq, lcX_eq, itvX_eq, itlX_eq, zipX_eq, augX_eq, subX_eq, callX_eq, truX_eq] at *
  exact k
theorem st_pss' (k : nx σ S) : sxX C .pss σ S ⟨nx, rt, bk, ct, ex⟩ := by
  simp only [exX_eq, exsX_eq, oeX_eq, ocX_eq, itX_eq, sxX_eq, sxsX_eq, binX_eq, cmpX_eq, idxX_eq, bltX_eq, slcX_eq, isiX_eq, rcvX_eq, mthX_eq, tgX_eq, tgsX_eq, forX_eq, lcX_eq, itvX_eq, itlX_eq, zipX_eq, augX_eq, subX_eq, callX_eq, truX_eq] at *
  exact k
/-- what a statement reaches, told once -/
theorem st_cut {s} (Q : Loc → Sto → Prop) (h : ∀ nx' : Loc → Sto → Prop, (∀ σ' S', Q σ' S' → nx' σ' S') → sxX C s σ S ⟨nx', rt, bk, ct, ex⟩) (h2 : ∀ σ' S', Q σ' S' → nx σ' S') : sxX C s σ S ⟨nx, rt, bk, ct, ex⟩ := by
  simp only [exX_eq, exsX_eq, oeX_eq, ocX_eq, itX_eq, sxX_eq, sxsX_eq, binX_eq, cmpX_eq, idxX_eq, bltX_eq, slcX_eq, isiX_eq, rcvX_eq, mthX_eq, tgX_eq, tgsX_eq, forX_eq, lcX_eq, itvX_eq, itlX_eq, zipX_eq, augX_eq, subX_eq, callX_eq, truX_eq] at *
  exact h nx h2
/-- while, by an invariant and a measure -/
theorem st_whl' {c b} (W : Nat → Loc → Sto → Prop) (m : Nat) (h0 : W m σ S)
    (st : ∀ m σ S, W m σ S → exX C c σ (fun x S => ex x σ S) S fun x S1 => truX S1 x fun k => if k = true then sxsX C b σ S1 ⟨fun σ' S' => ∃ m', m' < m ∧ W m' σ' S', rt, nx, fun σ' S' => ∃ m', m' < m ∧ W m' σ' S', ex⟩ else nx σ S1) :
    sxX C (.whl c b) σ S ⟨nx, rt, bk, ct, ex⟩ := by
  simp only [exX_eq, exsX_eq, oeX_eq, ocX_eq, itX_eq, sxX_eq, sxsX_eq, binX_eq, cmpX_eq, idxX_eq, bltX_eq, slcX_eq, isiX_eq, rcvX_eq, mthX_eq, tgX_eq, tgsX_eq, forX_eq, lcX_eq, itvX_eq, itlX_eq, zipX_eq, augX_eq, subX_eq, callX_eq, truX_eq] at *
  exact ⟨W, ⟨m, h0⟩, st⟩
theorem st_for' {tg it b} (k : itX C it σ (fun x S => ex x σ S) S fun l chk S1 => forX chk (fun d σ S K => tgX tg d σ fun σ' => sxsX C b σ' S ⟨K, rt, nx, K, ex⟩) l σ S1 nx) : sxX C (.for tg it b) σ S ⟨nx, rt, bk, ct, ex⟩ := by
  simp only [exX_eq, exsX_eq, oeX_eq, ocX_eq, itX_eq, sxX_eq, sxsX_eq, binX_eq, cmpX_eq, idxX_eq, bltX_eq, slcX_eq, isiX_eq, rcvX_eq, mthX_eq, tgX_eq, tgsX_eq, forX_eq, lcX_eq, itvX_eq, itlX_eq, zipX_eq, augX_eq, subX_eq, callX_eq, truX_eq] at *
  exact k
end
/-- for, by an invariant -/
theorem for_inv {chk : Sto → Prop} {body : D → Loc → Sto → (Loc → Sto → Prop) → Prop} {l : List D} {K : Loc → Sto → Prop} (I : Nat → Loc → Sto → Prop) (h0 : I 0 σ S) (hc : ∀ i σ S, i ≤ l.length → I i σ S → chk S)
    (st : ∀ i σ S K, ∀ h : i < l.length, I i σ S → (∀ σ' S', I (i + 1) σ' S' → K σ' S') → body l[i] σ S K) (hd : ∀ σ S, I l.length σ S → K σ S) : forX chk body l σ S K := by
  simp only [exX_eq, exsX_eq, oeX_eq, ocX_eq, itX_eq, sxX_eq, sxsX_eq, binX_eq, cmpX_eq, idxX_eq, bltX_eq, slcX_eq, isiX_eq, rcvX_eq, mthX_eq, tgX_eq, tgsX_eq, forX_eq, lcX_eq, itvX_eq, itlX_eq, zipX_eq, augX_eq, subX_eq, callX_eq, truX_eq] at *
  have go : ∀ n i σ S, n = l.length - i → i ≤ l.length → I i σ S → forW chk body (l.drop i) σ S K := fun n => by
    induction n with
    | zero =>
      intro i σ S hn hi h
      have e : i = l.length := by omega
      subst e
      rw [List.drop_length]
      exact ⟨hc _ σ S (Nat.le_refl _) h, hd σ S h⟩
    | succ n ih =>
      intro i σ S hn hi h
      have hlt : i < l.length := by omega
      rw [List.drop_eq_getElem_cons hlt]
      exact ⟨hc _ σ S hi h, st i σ S _ hlt h fun σ' S' h' => ih (i + 1) σ' S' (by omega) hlt h'⟩
  have q := go _ 0 σ S rfl (Nat.zero_le _) h0
  rwa [List.drop_zero] at q
/-- a comprehension, by an invariant -/
theorem lc_inv {chk : Sto → Prop} {turn : D → Sto → (Option D → Sto → Prop) → Prop} {l acc : List D} {K : List D → Sto → Prop} (I : Nat → List D → Sto → Prop) (h0 : I 0 acc S) (hc : ∀ i a S, i ≤ l.length → I i a S → chk S)
    (st : ∀ i a S Kt, ∀ h : i < l.length, I i a S → (∀ x S', I (i + 1) (a ++ [x]) S' → a.length < line → Kt (some x) S') → (∀ S', I (i + 1) a S' → Kt none S') → turn l[i] S Kt) (hl : ∀ i a S, I i a S → i < l.length → a.length < line) (hd : ∀ a S, I l.length a S → K a S) : lcX chk turn l acc S K := by
  simp only [exX_eq, exsX_eq, oeX_eq, ocX_eq, itX_eq, sxX_eq, sxsX_eq, binX_eq, cmpX_eq, idxX_eq, bltX_eq, slcX_eq, isiX_eq, rcvX_eq, mthX_eq, tgX_eq, tgsX_eq, forX_eq, lcX_eq, itvX_eq, itlX_eq, zipX_eq, augX_eq, subX_eq, callX_eq, truX_eq] at *
  have go : ∀ n i a S, n = l.length - i → i ≤ l.length → I i a S → lcW chk turn (l.drop i) a S K := fun n => by
    induction n with
    | zero =>
      intro i a S hn hi h
      have e : i = l.length := by omega
      subst e
      rw [List.drop_length]
      exact ⟨hc _ a S (Nat.le_refl _) h, hd a S h⟩
    | succ n ih =>
      intro i a S hn hi h
      have hlt : i < l.length := by omega
      rw [List.drop_eq_getElem_cons hlt]
      exact ⟨hc _ a S hi h, st i a S _ hlt h (fun x S' h' hz => ⟨hz, ih (i + 1) _ S' (by omega) hlt h'⟩) fun S' h' => ih (i + 1) _ S' (by omega) hlt h'⟩
  have q := go _ 0 acc S rfl (Nat.zero_le _) h0
  rwa [List.drop_zero] at q
/-! a def's call -/
theorem call_of {P : Prog} {n : Nat} {f : Str} {np nn : Nat} {body : Sxs} {as : List D} {σ : Loc} (hf : P f = some ⟨np, nn, body⟩) (hl : as.length = np) (hs : σ = as.map some ++ List.replicate (nn - np) none)
    (k : sxsX (callX P n) body σ S ⟨fun _ S' => ∃ S'', Sub S'' S' ∧ K .non S'', fun x S' => ∃ S'', Sub S'' S' ∧ K x S'', fun _ _ => False, fun _ _ => False, fun x _ S' => ∃ S'', Sub S'' S' ∧ E x S''⟩) :
    callX P (n + 1) f as S K E := by
  simp only [exX_eq, exsX_eq, oeX_eq, ocX_eq, itX_eq, sxX_eq, sxsX_eq, binX_eq, cmpX_eq, idxX_eq, bltX_eq, slcX_eq, isiX_eq, rcvX_eq, mthX_eq, tgX_eq, tgsX_eq, forX_eq, lcX_eq, itvX_eq, itlX_eq, zipX_eq, augX_eq, subX_eq, callX_eq, truX_eq] at *
  show (match P f with | some d => bodyW (callW P n) d as S K E | none => False)
  rw [hf]
  subst hs
  exact ⟨hl, k⟩
theorem Sub.rfl' : Sub S S := fun _ _ h => h
theorem same {P : Sto → Prop} (h : P S) : ∃ S'', Sub S'' S ∧ P S'' := ⟨S, fun _ _ h => h, h⟩
theorem put_eq {p : Nat} {o : AO} : put S p o p = some o := by unfold put; rw [if_pos rfl]
theorem put_of {p q : Nat} {o : AO} (h : q ≠ p) : put S p o q = S q := by unfold put; rw [if_neg h]
theorem put_put {p : Nat} {o o' : AO} : put (put S p o) p o' = put S p o' := by
  funext q
  unfold put
  split <;> rfl
theorem put_comm {p q : Nat} {o o' : AO} (h : p ≠ q) : put (put S p o) q o' = put (put S q o') p o := by
  funext r
  show (if r = q then some o' else if r = p then some o else S r) = (if r = p then some o else if r = q then some o' else S r)
  by_cases h1 : r = p
  · rw [if_pos h1, if_pos h1, if_neg (by rw [h1]; exact h)]
  · rw [if_neg h1, if_neg h1]
theorem sub_new {T : Sto} {p : Nat} {o : AO} (h : T p = none) : Sub T (put T p o) := fun a u e => by
  rw [put_of (by rintro rfl; rw [h] at e; cases e)]
  exact e
theorem sub_put {T T' : Sto} {p : Nat} {o : AO} (h : Sub T T') : Sub (put T p o) (put T' p o) := fun a u e => by
  by_cases q : a = p
  · subst q; rw [put_eq] at e ⊢; exact e
  · rw [put_of q] at e ⊢; exact h a u e
theorem Sub.trans' {A B T : Sto} (h : Sub A B) (k : Sub B T) : Sub A T := fun a u e => k a u (h a u e)
end
/-- what the law's def is to answer, of each script -/
def LawX (P : Prog) (k most : Nat) (nm : Str) : Prop := ∀ ns : List Int, ns.length ≤ most → (∀ z ∈ ns, z.natAbs.log2 < 1048576) →
  callX P k nm [.fz (ns.map .int)] (fun _ => none) (fun d _ => d = .bl true) (fun _ _ => False)
theorem lawX {P : Prog} {k most : Nat} {nm : Str} (h : LawX P k most nm) : LawW P k most nm := fun ns a b => by
  have q := h ns a b
  rw [callX_eq] at q
  exact q
end Ev
set_option maxHeartbeats 0
namespace K44
open PySem (Str)
open Ev
def d_common : Df := ⟨2, 2, (.cons (.asg (.tg (.tp (.cons (.nm 0) (.cons (.nm 1) .nil)))) (.tup (.cons (.blt .abs (.cons (.var 0) .nil)) (.cons (.blt
  .abs (.cons (.var 1) .nil)) .nil)))) (.cons (.whl (.var 1) (.cons (.asg (.tg (.tp (.cons (.nm 0) (.cons (.nm 1) .nil)))) (.tup (.cons (.var 1) (.cons
  (.bin .mod (.var 0) (.var 1)) .nil)))) .nil)) (.cons (.ret (.var 0)) .nil)))⟩
def d_frac : Df := ⟨2, 3, (.cons (.iff (.cmp .lt (.var 1) (.int 0)) (.cons (.asg (.tg (.tp (.cons (.nm 0) (.cons (.nm 1) .nil)))) (.tup (.cons (.neg
  (.var 0)) (.cons (.neg (.var 1)) .nil)))) .nil) .nil) (.cons (.asg (.tg (.nm 2)) (.call "common" (.cons (.var 0) (.cons (.var 1) .nil)))) (.cons
  (.ret (.tup (.cons (.bin .fdiv (.var 0) (.var 2)) (.cons (.bin .fdiv (.var 1) (.var 2)) .nil)))) .nil)))⟩
def d_plus : Df := ⟨2, 2, (.cons (.ret (.call "frac" (.cons (.bin .add (.bin .mul (.idx (.var 0) (.int 0)) (.idx (.var 1) (.int 1))) (.bin .mul (.idx
  (.var 1) (.int 0)) (.idx (.var 0) (.int 1)))) (.cons (.bin .mul (.idx (.var 0) (.int 1)) (.idx (.var 1) (.int 1))) .nil)))) .nil)⟩
def d_less_by : Df := ⟨2, 2, (.cons (.ret (.call "frac" (.cons (.bin .sub (.bin .mul (.idx (.var 0) (.int 0)) (.idx (.var 1) (.int 1))) (.bin .mul
  (.idx (.var 1) (.int 0)) (.idx (.var 0) (.int 1)))) (.cons (.bin .mul (.idx (.var 0) (.int 1)) (.idx (.var 1) (.int 1))) .nil)))) .nil)⟩
def d_times : Df := ⟨2, 2, (.cons (.ret (.call "frac" (.cons (.bin .mul (.idx (.var 0) (.int 0)) (.idx (.var 1) (.int 0))) (.cons (.bin .mul (.idx
  (.var 0) (.int 1)) (.idx (.var 1) (.int 1))) .nil)))) .nil)⟩
def d_over : Df := ⟨2, 2, (.cons (.ret (.call "frac" (.cons (.bin .mul (.idx (.var 0) (.int 0)) (.idx (.var 1) (.int 1))) (.cons (.bin .mul (.idx (.var
  0) (.int 1)) (.idx (.var 1) (.int 0))) .nil)))) .nil)⟩
def d_is_less : Df := ⟨2, 2, (.cons (.ret (.cmp .lt (.bin .mul (.idx (.var 0) (.int 0)) (.idx (.var 1) (.int 1))) (.bin .mul (.idx (.var 1) (.int 0))
  (.idx (.var 0) (.int 1))))) .nil)⟩
def d_rest_of : Df := ⟨1, 1, (.cons (.ret (.call "frac" (.cons (.bin .sub (.idx (.var 0) (.int 1)) (.idx (.var 0) (.int 0))) (.cons (.idx (.var 0)
  (.int 1)) .nil)))) .nil)⟩
def d_sum_of : Df := ⟨1, 3, (.cons (.asg (.tg (.nm 1)) (.tup (.cons (.int 0) (.cons (.int 1) .nil)))) (.cons (.for (.nm 2) (.val (.var 0)) (.cons (.asg
  (.tg (.nm 1)) (.call "plus" (.cons (.var 1) (.cons (.var 2) .nil)))) .nil)) (.cons (.ret (.var 1)) .nil)))⟩
def d_product_of : Df := ⟨1, 3, (.cons (.asg (.tg (.nm 1)) (.tup (.cons (.int 1) (.cons (.int 1) .nil)))) (.cons (.for (.nm 2) (.val (.var 0)) (.cons
  (.asg (.tg (.nm 1)) (.call "times" (.cons (.var 1) (.cons (.var 2) .nil)))) .nil)) (.cons (.ret (.var 1)) .nil)))⟩
def d_is_frac : Df := ⟨1, 2, (.cons (.iff (.or (.not (.isi (.var 0) .tuple)) (.cmp .ne (.blt .len (.cons (.var 0) .nil)) (.int 2))) (.cons (.ret (.bl
  false)) .nil) .nil) (.cons (.for (.nm 1) (.val (.var 0)) (.cons (.iff (.or (.isi (.var 1) .bool) (.not (.isi (.var 1) .int))) (.cons (.ret (.bl
  false)) .nil) .nil) .nil)) (.cons (.ret (.and (.cmp .ge (.idx (.var 0) (.int 1)) (.int 1)) (.cmp .eq (.call "common" (.cons (.idx (.var 0) (.int 0))
  (.cons (.idx (.var 0) (.int 1)) .nil))) (.int 1)))) .nil)))⟩
def d_is_chance : Df := ⟨1, 1, (.cons (.ret (.and (.call "is_frac" (.cons (.var 0) .nil)) (.chn .lt .lt (.int 0) (.idx (.var 0) (.int 0)) (.idx (.var
  0) (.int 1))))) .nil)⟩
def d_law_begin : Df := ⟨1, 2, (.cons (.ret (.lst (.cons (.lc (.blt .int (.cons (.var 1) .nil)) (.nm 1) (.val (.var 0)) .no [1]) (.cons (.int 0) (.cons
  (.int 0) (.cons (.int 17) .nil)))))) .nil)⟩
def d_law_draw : Df := ⟨2, 5, (.cons (.iff (.cmp .gt (.idx (.var 0) (.int 2)) (.int 0)) (.cons (.asg (.tg (.nm 2)) (.idx (.var 0) (.int 2))) (.cons
  (.asg (.sub (.var 0) (.int 2)) (.bin .fdiv (.var 2) (.var 1))) (.cons (.ret (.bin .mod (.blt .int (.cons (.var 2) .nil)) (.var 1))) .nil))) .nil)
  (.cons (.asg (.tg (.nm 3)) (.int 0)) (.cons (.iff (.cmp .lt (.idx (.var 0) (.int 1)) (.blt .len (.cons (.idx (.var 0) (.int 0)) .nil))) (.cons (.asg
  (.tg (.nm 4)) (.idx (.idx (.var 0) (.int 0)) (.idx (.var 0) (.int 1)))) (.cons (.asg (.tg (.nm 3)) (.bin .add (.bin .mul (.int 2) (.blt .abs (.cons
  (.var 4) .nil))) (.blt .int (.cons (.cmp .lt (.var 4) (.int 0)) .nil)))) .nil)) .nil) (.cons (.augs (.var 0) (.int 1) .add (.int 1)) (.cons (.iff
  (.cmp .ge (.var 3) (.bin .mul (.int 2) (.bin .pow (.int 10) (.int 18)))) (.cons (.asg (.tg (.nm 2)) (.bin .mod (.blt .int (.cons (.bin .fdiv (.var 3)
  (.int 2)) .nil)) (.bin .shl (.int 1) (.int 6000)))) (.cons (.asg (.sub (.var 0) (.int 2)) (.bin .fdiv (.var 2) (.var 1))) (.cons (.ret (.bin .mod
  (.blt .int (.cons (.var 2) .nil)) (.var 1))) .nil))) .nil) (.cons (.asg (.sub (.var 0) (.int 3)) (.bin .mod (.blt .int (.cons (.bin .add (.bin .add
  (.bin .add (.bin .mul (.idx (.var 0) (.int 3)) (.int 69069)) (.bin .mul (.bin .mod (.blt .int (.cons (.var 3) .nil)) (.int 2147483629)) (.int
  40692))) (.bin .mul (.idx (.var 0) (.int 1)) (.int 40014))) (.int 29)) .nil)) (.int 2147483647))) (.cons (.ret (.bin .mod (.blt .int (.cons (.bin
  .fdiv (.idx (.var 0) (.int 3)) (.int 32)) .nil)) (.var 1))) .nil)))))))⟩
def d_law_pick : Df := ⟨2, 2, (.cons (.ret (.idx (.var 1) (.call "_law_draw" (.cons (.var 0) (.cons (.blt .len (.cons (.var 1) .nil)) .nil))))) .nil)⟩
def d_law_rare : Df := ⟨2, 2, (.cons (.ret (.cmp .eq (.call "_law_draw" (.cons (.var 0) (.cons (.var 1) .nil))) (.bin .fdiv (.var 1) (.int 2)))) .nil)⟩
def d_law_is_int : Df := ⟨1, 1, (.cons (.ret (.and (.isi (.var 0) .int) (.not (.isi (.var 0) .bool)))) .nil)⟩
def d_law_says : Df := ⟨2, 2, (.cons (.ret (.and (.isi (.var 0) .bool) (.cmp .eq (.var 0) (.var 1)))) .nil)⟩
def d_law_gcd : Df := ⟨2, 2, (.cons (.asg (.tg (.tp (.cons (.nm 0) (.cons (.nm 1) .nil)))) (.tup (.cons (.blt .abs (.cons (.var 0) .nil)) (.cons (.blt
  .abs (.cons (.var 1) .nil)) .nil)))) (.cons (.whl (.cmp .ne (.var 1) (.int 0)) (.cons (.asg (.tg (.tp (.cons (.nm 0) (.cons (.nm 1) .nil)))) (.tup
  (.cons (.var 1) (.cons (.bin .mod (.blt .int (.cons (.var 0) .nil)) (.var 1)) .nil)))) .nil)) (.cons (.ret (.var 0)) .nil)))⟩
def d_law_frac : Df := ⟨2, 3, (.cons (.iff (.cmp .lt (.var 1) (.int 0)) (.cons (.asg (.tg (.tp (.cons (.nm 0) (.cons (.nm 1) .nil)))) (.tup (.cons
  (.neg (.var 0)) (.cons (.neg (.var 1)) .nil)))) .nil) .nil) (.cons (.asg (.tg (.nm 2)) (.call "_law_gcd" (.cons (.var 0) (.cons (.var 1) .nil))))
  (.cons (.ret (.tup (.cons (.bin .fdiv (.var 0) (.var 2)) (.cons (.bin .fdiv (.var 1) (.var 2)) .nil)))) .nil)))⟩
def d_law_is_frac : Df := ⟨1, 1, (.cons (.iff (.or (.not (.isi (.var 0) .tuple)) (.cmp .ne (.blt .len (.cons (.var 0) .nil)) (.int 2))) (.cons (.ret
  (.bl false)) .nil) .nil) (.cons (.iff (.not (.and (.call "_law_is_int" (.cons (.idx (.var 0) (.int 0)) .nil)) (.call "_law_is_int" (.cons (.idx (.var
  0) (.int 1)) .nil)))) (.cons (.ret (.bl false)) .nil) .nil) (.cons (.ret (.and (.cmp .ge (.idx (.var 0) (.int 1)) (.int 1)) (.cmp .eq (.call
  "_law_gcd" (.cons (.idx (.var 0) (.int 0)) (.cons (.idx (.var 0) (.int 1)) .nil))) (.int 1)))) .nil)))⟩
def d_law_number : Df := ⟨1, 4, (.cons (.asg (.tg (.nm 1)) (.call "_law_draw" (.cons (.var 0) (.cons (.int 6) .nil)))) (.cons (.iff (.cmp .lt (.var 1)
  (.int 2)) (.cons (.ret (.bin .sub (.call "_law_draw" (.cons (.var 0) (.cons (.int 25) .nil))) (.int 12))) .nil) .nil) (.cons (.iff (.cmp .eq (.var 1)
  (.int 2)) (.cons (.ret (.bin .sub (.call "_law_draw" (.cons (.var 0) (.cons (.int 3) .nil))) (.int 1))) .nil) .nil) (.cons (.asg (.tg (.nm 2)) (.int
  0)) (.cons (.for (.nm 3) (.rg1 (.bin .sub (.bin .mul (.int 2) (.var 1)) (.int 5))) (.cons (.asg (.tg (.nm 2)) (.bin .add (.bin .mul (.var 2) (.int
  1000003)) (.call "_law_draw" (.cons (.var 0) (.cons (.int 1000003) .nil))))) .nil)) (.cons (.ret (.ite (.call "_law_draw" (.cons (.var 0) (.cons
  (.int 2) .nil))) (.var 2) (.neg (.var 2)))) .nil))))))⟩
def d_law_parts : Df := ⟨1, 5, (.cons (.asg (.tg (.tp (.cons (.nm 1) (.cons (.nm 2) .nil)))) (.tup (.cons (.call "_law_number" (.cons (.var 0) .nil))
  (.cons (.call "_law_number" (.cons (.var 0) .nil)) .nil)))) (.cons (.iff (.call "_law_rare" (.cons (.var 0) (.cons (.int 5) .nil))) (.cons (.asg (.tg
  (.tp (.cons (.nm 1) (.cons (.nm 2) .nil)))) (.tup (.cons (.int 1) (.cons (.int 1) .nil)))) (.cons (.for (.nm 3) (.rg1 (.call "_law_draw" (.cons (.var
  0) (.cons (.int 140) .nil)))) (.cons (.asg (.tg (.tp (.cons (.nm 1) (.cons (.nm 2) .nil)))) (.tup (.cons (.var 2) (.cons (.bin .add (.var 1) (.var
  2)) .nil)))) .nil)) .nil)) .nil) (.cons (.iff (.cmp .eq (.var 2) (.int 0)) (.cons (.asg (.tg (.nm 2)) (.bin .add (.int 1) (.call "_law_draw" (.cons
  (.var 0) (.cons (.int 9) .nil))))) .nil) .nil) (.cons (.asg (.tg (.nm 4)) (.call "_law_pick" (.cons (.var 0) (.cons (.lst (.cons (.int 1) (.cons
  (.int 1) (.cons (.int 2) (.cons (.neg (.int 1)) (.cons (.neg (.int 6)) (.cons (.int 1000003) .nil))))))) .nil)))) (.cons (.ret (.tup (.cons (.bin
  .mul (.var 1) (.var 4)) (.cons (.bin .mul (.var 2) (.var 4)) .nil)))) .nil)))))⟩
def d_law_tells : Df := ⟨3, 3, (.cons (.ret (.and (.call "_law_is_frac" (.cons (.var 0) .nil)) (.cmp .eq (.bin .mul (.idx (.var 0) (.int 0)) (.var 2))
  (.bin .mul (.var 1) (.idx (.var 0) (.int 1)))))) .nil)⟩
def d_law_two : Df := ⟨2, 6, (.cons (.asg (.tg (.tp (.cons (.nm 2) (.cons (.nm 3) .nil)))) (.var 0)) (.cons (.asg (.tg (.tp (.cons (.nm 4) (.cons (.nm
  5) .nil)))) (.var 1)) (.cons (.iff (.not (.call "_law_tells" (.cons (.call "plus" (.cons (.var 0) (.cons (.var 1) .nil))) (.cons (.bin .add (.bin
  .mul (.var 2) (.var 5)) (.bin .mul (.var 4) (.var 3))) (.cons (.bin .mul (.var 3) (.var 5)) .nil))))) (.cons (.ret (.bl false)) .nil) .nil) (.cons
  (.iff (.not (.call "_law_tells" (.cons (.call "less_by" (.cons (.var 0) (.cons (.var 1) .nil))) (.cons (.bin .sub (.bin .mul (.var 2) (.var 5)) (.bin
  .mul (.var 4) (.var 3))) (.cons (.bin .mul (.var 3) (.var 5)) .nil))))) (.cons (.ret (.bl false)) .nil) .nil) (.cons (.iff (.not (.call "_law_tells"
  (.cons (.call "times" (.cons (.var 0) (.cons (.var 1) .nil))) (.cons (.bin .mul (.var 2) (.var 4)) (.cons (.bin .mul (.var 3) (.var 5)) .nil)))))
  (.cons (.ret (.bl false)) .nil) .nil) (.cons (.iff (.and (.cmp .ne (.var 4) (.int 0)) (.not (.call "_law_tells" (.cons (.call "over" (.cons (.var 0)
  (.cons (.var 1) .nil))) (.cons (.bin .mul (.var 2) (.var 5)) (.cons (.bin .mul (.var 3) (.var 4)) .nil)))))) (.cons (.ret (.bl false)) .nil) .nil)
  (.cons (.ret (.call "_law_says" (.cons (.call "is_less" (.cons (.var 0) (.cons (.var 1) .nil))) (.cons (.cmp .lt (.bin .mul (.var 2) (.var 5)) (.bin
  .mul (.var 4) (.var 3))) .nil)))) .nil)))))))⟩
def d_law_odd : Df := ⟨3, 4, (.cons (.asg (.tg (.nm 3)) (.lst (.cons (.tup (.cons (.var 0) (.cons (.var 1) .nil))) (.cons (.tup (.cons (.var 1) (.cons
  (.var 0) .nil))) (.cons (.tup (.cons (.neg (.var 0)) (.cons (.var 1) .nil))) (.cons (.tup (.cons (.neg (.var 0)) (.cons (.neg (.var 1)) .nil)))
  (.cons (.tup (.cons (.var 0) (.cons (.neg (.var 1)) .nil))) (.cons (.tup (.cons (.var 0) (.cons (.int 0) .nil))) (.cons (.tup (.cons (.int 0) (.cons
  (.var 0) .nil))) (.cons (.tup (.cons (.int 0) (.cons (.var 1) .nil))) (.cons (.tup (.cons (.int 0) (.cons (.int 0) .nil))) (.cons (.tup (.cons (.int
  0) (.cons (.int 1) .nil))) (.cons (.tup (.cons (.int 1) (.cons (.int 1) .nil))) (.cons (.tup (.cons (.int 1) (.cons (.var 2) .nil)))
  .nil)))))))))))))) (.cons (.exp (.mth .extend (.var 3) (.cons (.lst (.cons (.tup (.cons (.bin .mul (.var 0) (.var 2)) (.cons (.bin .mul (.var 1)
  (.var 2)) .nil))) (.cons (.tup (.cons (.bin .sub (.var 2) (.int 1)) (.cons (.var 2) .nil))) (.cons (.tup (.cons (.bin .add (.var 2) (.int 1)) (.cons
  (.var 2) .nil))) (.cons (.tup (.cons (.var 2) (.cons (.var 2) .nil))) (.cons (.tup (.cons (.var 2) (.cons (.int 1) .nil))) (.cons (.tup (.cons (.int
  1) (.cons (.neg (.var 2)) .nil))) (.cons (.tup (.cons (.neg (.int 1)) (.cons (.var 2) .nil))) (.cons (.tup (.cons (.var 0) (.cons (.var 1) (.cons
  (.int 1) .nil)))) (.cons (.tup (.cons (.var 0) .nil)) (.cons (.tup .nil) .nil))))))))))) .nil))) (.cons (.exp (.mth .extend (.var 3) (.cons (.lst
  (.cons (.tup (.cons (.bl true) (.cons (.var 1) .nil))) (.cons (.tup (.cons (.var 0) (.cons (.bl true) .nil))) (.cons (.tup (.cons (.bl false) (.cons
  (.int 1) .nil))) (.cons (.tup (.cons (.bl true) (.cons (.var 2) .nil))) (.cons (.tup (.cons (.blt .str (.cons (.var 0) .nil)) (.cons (.var 1) .nil)))
  (.cons (.tup (.cons (.var 0) (.cons (.blt .str (.cons (.var 1) .nil)) .nil))) (.cons (.tup (.cons .non (.cons (.var 1) .nil))) (.cons (.tup (.cons
  (.var 0) (.cons .non .nil))) .nil))))))))) .nil))) (.cons (.exp (.mth .extend (.var 3) (.cons (.lst (.cons (.tup (.cons (.tup (.cons (.var 0) (.cons
  (.var 1) .nil))) (.cons (.int 1) .nil))) (.cons (.tup (.cons (.int 1) (.cons (.tup (.cons (.var 0) (.cons (.var 1) .nil))) .nil))) (.cons (.lst
  (.cons (.var 0) (.cons (.var 1) .nil))) (.cons (.lst (.cons (.int 1) (.cons (.var 2) .nil))) (.cons (.var 0) (.cons (.bl true) (.cons .non (.cons
  (.str "1") (.cons (.str "12") .nil)))))))))) .nil))) (.cons (.ret (.var 3)) .nil)))))⟩
def d_law_alone : Df := ⟨2, 6, (.cons (.asg (.tg (.tp (.cons (.nm 2) (.cons (.nm 3) .nil)))) (.var 1)) (.cons (.iff (.not (.call "_law_tells" (.cons
  (.call "rest_of" (.cons (.var 1) .nil)) (.cons (.bin .sub (.var 3) (.var 2)) (.cons (.var 3) .nil))))) (.cons (.ret (.bl false)) .nil) .nil) (.cons
  (.for (.nm 4) (.val (.call "_law_odd" (.cons (.var 2) (.cons (.var 3) (.cons (.bin .add (.int 2) (.call "_law_draw" (.cons (.var 0) (.cons (.int 6)
  .nil)))) .nil))))) (.cons (.asg (.tg (.nm 5)) (.call "_law_is_frac" (.cons (.var 4) .nil))) (.cons (.iff (.not (.call "_law_says" (.cons (.call
  "is_frac" (.cons (.var 4) .nil)) (.cons (.var 5) .nil)))) (.cons (.ret (.bl false)) .nil) .nil) (.cons (.iff (.not (.call "_law_says" (.cons (.call
  "is_chance" (.cons (.var 4) .nil)) (.cons (.and (.var 5) (.chn .lt .lt (.int 0) (.idx (.var 4) (.int 0)) (.idx (.var 4) (.int 1)))) .nil)))) (.cons
  (.ret (.bl false)) .nil) .nil) .nil)))) (.cons (.ret (.bl true)) .nil))))⟩
def d_law_together : Df := ⟨1, 7, (.cons (.asg (.tg (.tp (.cons (.nm 1) (.cons (.nm 2) (.cons (.nm 3) (.cons (.nm 4) .nil)))))) (.tup (.cons (.int 0)
  (.cons (.int 1) (.cons (.int 1) (.cons (.int 1) .nil)))))) (.cons (.for (.tp (.cons (.nm 5) (.cons (.nm 6) .nil))) (.val (.var 0)) (.cons (.asg (.tg
  (.tp (.cons (.nm 1) (.cons (.nm 2) .nil)))) (.tup (.cons (.bin .add (.bin .mul (.var 1) (.var 6)) (.bin .mul (.var 5) (.var 2))) (.cons (.bin .mul
  (.var 2) (.var 6)) .nil)))) (.cons (.asg (.tg (.tp (.cons (.nm 3) (.cons (.nm 4) .nil)))) (.tup (.cons (.bin .mul (.var 3) (.var 5)) (.cons (.bin
  .mul (.var 4) (.var 6)) .nil)))) .nil))) (.cons (.ret (.and (.call "_law_tells" (.cons (.call "sum_of" (.cons (.blt .tuple (.cons (.var 0) .nil))
  .nil)) (.cons (.var 1) (.cons (.var 2) .nil)))) (.call "_law_tells" (.cons (.call "product_of" (.cons (.blt .tuple (.cons (.var 0) .nil)) .nil))
  (.cons (.var 3) (.cons (.var 4) .nil)))))) .nil)))⟩
def d_law : Df := ⟨1, 10, (.cons (.asg (.tg (.nm 1)) (.call "_law_begin" (.cons (.var 0) .nil))) (.cons (.asg (.tg (.nm 2)) (.lc (.call "_law_parts"
  (.cons (.var 1) .nil)) (.nm 9) (.rg1 (.bin .add (.int 3) (.call "_law_draw" (.cons (.var 1) (.cons (.int 3) .nil))))) .no [9])) (.cons (.asg (.tg
  (.nm 3)) (.lst .nil)) (.cons (.iff (.call "_law_rare" (.cons (.var 1) (.cons (.int 6) .nil))) (.cons (.asg (.tg (.nm 3)) (.lc (.call "_law_frac"
  (.cons (.bin .sub (.call "_law_draw" (.cons (.var 1) (.cons (.int 25) .nil))) (.int 12)) (.cons (.bin .add (.int 1) (.call "_law_draw" (.cons (.var
  1) (.cons (.int 12) .nil)))) .nil))) (.nm 9) (.rg1 (.bin .add (.int 20) (.call "_law_draw" (.cons (.var 1) (.cons (.int 45) .nil))))) .no [9])) .nil)
  .nil) (.cons (.for (.tp (.cons (.nm 4) (.cons (.nm 5) .nil))) (.val (.var 2)) (.cons (.iff (.not (.call "_law_tells" (.cons (.call "frac" (.cons
  (.var 4) (.cons (.var 5) .nil))) (.cons (.var 4) (.cons (.var 5) .nil))))) (.cons (.ret (.bl false)) .nil) .nil) .nil)) (.cons (.asg (.tg (.nm 6))
  (.lc (.call "_law_frac" (.cons (.var 4) (.cons (.var 5) .nil))) (.tp (.cons (.nm 4) (.cons (.nm 5) .nil))) (.val (.var 2)) .no [4, 5])) (.cons (.for
  (.nm 7) (.val (.var 6)) (.cons (.iff (.not (.call "_law_alone" (.cons (.var 1) (.cons (.var 7) .nil)))) (.cons (.ret (.bl false)) .nil) .nil) (.cons
  (.for (.nm 8) (.val (.var 6)) (.cons (.iff (.not (.call "_law_two" (.cons (.var 7) (.cons (.var 8) .nil)))) (.cons (.ret (.bl false)) .nil) .nil)
  .nil)) .nil))) (.cons (.for (.tp (.cons (.nm 4) (.cons (.nm 5) .nil))) (.val (.var 2)) (.cons (.iff (.not (.call "_law_tells" (.cons (.call "frac"
  (.cons (.var 4) (.cons (.var 5) .nil))) (.cons (.var 4) (.cons (.var 5) .nil))))) (.cons (.ret (.bl false)) .nil) .nil) .nil)) (.cons (.ret (.and
  (.call "_law_together" (.cons (.var 6) .nil)) (.and (.call "_law_together" (.cons (.var 3) .nil)) (.and (.call "_law_together" (.cons (.slc (.var 6)
  .no (.yes (.int 1))) .nil)) (.call "_law_together" (.cons (.lst .nil) .nil)))))) .nil)))))))))⟩
/-- the text holds these defs -/
structure Has (P : Prog) : Prop where
  h_common : P "common" = some d_common
  h_frac : P "frac" = some d_frac
  h_plus : P "plus" = some d_plus
  h_less_by : P "less_by" = some d_less_by
  h_times : P "times" = some d_times
  h_over : P "over" = some d_over
  h_is_less : P "is_less" = some d_is_less
  h_rest_of : P "rest_of" = some d_rest_of
  h_sum_of : P "sum_of" = some d_sum_of
  h_product_of : P "product_of" = some d_product_of
  h_is_frac : P "is_frac" = some d_is_frac
  h_is_chance : P "is_chance" = some d_is_chance
  h_law_begin : P "_law_begin" = some d_law_begin
  h_law_draw : P "_law_draw" = some d_law_draw
  h_law_pick : P "_law_pick" = some d_law_pick
  h_law_rare : P "_law_rare" = some d_law_rare
  h_law_is_int : P "_law_is_int" = some d_law_is_int
  h_law_says : P "_law_says" = some d_law_says
  h_law_gcd : P "_law_gcd" = some d_law_gcd
  h_law_frac : P "_law_frac" = some d_law_frac
  h_law_is_frac : P "_law_is_frac" = some d_law_is_frac
  h_law_number : P "_law_number" = some d_law_number
  h_law_parts : P "_law_parts" = some d_law_parts
  h_law_tells : P "_law_tells" = some d_law_tells
  h_law_two : P "_law_two" = some d_law_two
  h_law_odd : P "_law_odd" = some d_law_odd
  h_law_alone : P "_law_alone" = some d_law_alone
  h_law_together : P "_law_together" = some d_law_together
  h_law : P "law" = some d_law

section
local macro_rules
  | `(tactic| walk_at "e0") => `(tactic| first
    | refine ss_cons' ?_ | refine ss_nil' ?_ | refine st_asg' ?_ | refine st_exp' ?_ | refine st_ret' ?_ | refine st_retn' ?_ | refine st_sub' ?_ | refine st_aug' ?_ rfl | refine st_augs' ?_
    | refine st_brk' ?_ | refine st_cnt' ?_ | refine st_pss' ?_ | refine st_for' ?_
    | refine exs_cons ?_ | refine exs_nil ?_ | refine ex_var ?_ rfl | refine ex_int ?_ | refine ex_bin ?_ | refine ex_call ?_ | refine ex_cmp ?_ | refine ex_idx ?_ | refine ex_tup ?_ | refine ex_lst ?_
    | refine ex_blt ?_ | refine ex_mth ?_ | refine ex_ite ?_ | refine ex_and ?_ | refine ex_or ?_ | refine ex_not ?_ | refine ex_neg ?_ | refine ex_inv ?_ | refine ex_chn ?_ | refine ex_slc ?_ | refine ex_isi ?_ | refine ex_lc ?_
    | refine ex_non ?_ | refine ex_bl ?_ | refine ex_str ?_ | refine ex_dic0 ?_
    | refine oe_no ?_ | refine oe_yes ?_ | refine oc_no ?_ | refine oc_yes ?_ | refine eq_int ?_
    | refine tg_nm ?_ | refine tg_tp ?_ | refine tgs_nil ?_ | refine tgs_cons ?_
    | refine len_ok ?_ (by (simp [line]; done)) | refine tr_bl ?_ | refine tr_int ?_ | refine tr_non ?_ | refine if_t ?_ | refine if_f ?_
    | refine b_add ?_ | refine b_sub ?_ | refine b_mul ?_ (by assumption) | refine b_mul ?_ ?_ | refine b_mod ?_ (by omega) | refine b_mod ?_ ?_ | refine b_div ?_ (by decide) | refine b_div ?_ ?_ | refine b_and ?_ | refine b_or ?_ | refine b_xor ?_ | refine b_addB ?_
    | refine b_shl ?_ (by decide) | refine b_shl ?_ ?_ | refine b_shr ?_ (by decide) | refine b_shr ?_ ?_ | refine b_pow ?_ (by decide) | refine b_pow ?_ ?_ | refine a_int ?_ (by decide)
    | refine c_lt ?_ | refine c_le ?_ | refine c_gt ?_ | refine c_ge ?_ | refine c_eqi ?_ | refine c_nei ?_ | refine c_eqb ?_ | refine c_neb ?_
    | refine ix_tup rfl ?_ | refine bl_lenT ?_ | refine bl_abs ?_ | refine bl_int ?_ | refine bl_intB ?_ | refine bl_bool ?_ | refine bl_boolB ?_ | refine bl_tupT ?_
    | refine it_val ?_ | refine it_rg1 ?_ | refine it_rg2 ?_ | refine it_rgd ?_ | refine it_enum ?_ | refine it_zip ?_ | refine it_rev ?_ | refine iv_fz ?_ | refine sl_tup ?_ | refine iv_tup ?_ | refine iz_tup ?_ | refine ii (c := true) rfl ?_ | refine ii (c := false) rfl ?_)
  | `(tactic| walk_at "ev") => `(tactic| first | walk_at "e0" | refine st_if' ?_)
  | `(tactic| walk_at "ne") => `(tactic| (first | assumption | (apply Ne.symm; assumption)))
  | `(tactic| walk_at "st") => `(tactic| (first | assumption | exact put_eq | (refine (put_of ?_).trans ?_; walk_at "ne"; walk_at "st")))
  | `(tactic| walk_at "e0s") => `(tactic| (first | walk_at "e0" | (apply ix_lst; walk_at "st"; focus rfl) | (apply su_lst; walk_at "st"; focus rfl) | (apply bl_lenL; walk_at "st") | (apply sl_lst; walk_at "st") | (apply rcv_l; walk_at "st"; focus decide) | (apply bl_tupL; walk_at "st") | (apply bl_lstL; walk_at "st") | (apply iv_lst; walk_at "st") | (apply il_lst; walk_at "st") | (apply ii_lst (c := false); walk_at "st"; focus rfl) | (apply ii_lst (c := true); walk_at "st"; focus rfl)))
  | `(tactic| walk_at "evs") => `(tactic| first | walk_at "e0s" | refine st_if' ?_)
  | `(tactic| walk_at "e0s*") => `(tactic| repeat (walk_at "e0s"))
  | `(tactic| walk_at "evs*") => `(tactic| repeat (walk_at "evs"))
  | `(tactic| walk_at "ev*") => `(tactic| repeat (walk_at "ev"))

variable {P : Prog} {S : Sto} {K : DK} {E : XK}
theorem w_common (h : Has P) {n : Nat} {a b : Int} (hk : K (.int (Int.gcd a b)) S) : callX P (n+1) "common" [.int a, .int b] S K E := by
  refine call_of (σ := [some (.int a), some (.int b)]) h.h_common rfl rfl ?_
  walk_at "ev*"
  refine st_whl' (fun m σ T => T = S ∧ ∃ x y : Nat, σ = [some (.int x), some (.int y)] ∧ Nat.gcd x y = Int.gcd a b ∧ m = y) _ ⟨rfl, _, _, rfl, rfl, rfl⟩ ?_
  rintro m σ T ⟨rfl, x, y, rfl, hg, rfl⟩
  walk_at "ev*"
  refine if_both (fun hb => ?_) (fun hb => ?_)
  · have hy : m ≠ 0 := by rintro rfl; simp at hb
    walk_at "ev*"
    refine ⟨x % m, Nat.mod_lt _ (Nat.pos_of_ne_zero hy), rfl, m, x % m, rfl, ?_, rfl⟩
    rw [← hg, Nat.gcd_comm x m, Nat.gcd_rec m x, Nat.gcd_comm]
  · have hy : m = 0 := by simpa using hb
    subst hy
    walk_at "ev*"
    rw [Nat.gcd_zero_right] at hg
    subst hg
    exact same (P := fun S => K _ S) hk

/-- a fraction told in lowest terms -/
def fr (a b : Int) : D := if b < 0 then .tup [.int (-a / Int.gcd a b), .int (-b / Int.gcd a b)] else .tup [.int (a / Int.gcd a b), .int (b / Int.gcd a b)]
theorem gcd_pos {a b : Int} (hb : b ≠ 0) : (0 : Int) < Int.gcd a b := by
  have := Int.gcd_pos_of_ne_zero_right a hb
  omega
theorem natAbs_cast (n : Nat) : ((n : Int)).natAbs = n := by omega
theorem w_frac (h : Has P) {n : Nat} {a b : Int} (hb : b ≠ 0) (hl : (Int.gcd a b).log2 < 9000) (hk : K (fr a b) S) : callX P (n+2) "frac" [.int a, .int b] S K E := by
  refine call_of (σ := [some (.int a), some (.int b), none]) h.h_frac rfl rfl ?_
  have hp := gcd_pos (a := a) hb
  unfold fr at hk
  walk_at "ev*"
  refine if_dec (fun hc => ?_) (fun hc => ?_)
  · rw [if_pos hc] at hk
    walk_at "ev*"
    refine w_common h ?_
    have e : Int.gcd (-a) (-b) = Int.gcd a b := by rw [Int.gcd_neg, Int.neg_gcd]
    rw [e]
    walk_at "ev*"
    · exact same (P := fun S => K _ S) hk
    all_goals exact ⟨hp, by rw [natAbs_cast]; exact hl⟩
  · rw [if_neg hc] at hk
    walk_at "ev*"
    refine w_common h ?_
    walk_at "ev*"
    · exact same (P := fun S => K _ S) hk
    all_goals exact ⟨hp, by rw [natAbs_cast]; exact hl⟩
theorem w_plus (h : Has P) {n : Nat} {a b c d : Int} (m1 : mulOk a d) (m2 : mulOk c b) (m3 : mulOk b d) (hb : b * d ≠ 0) (hl : (Int.gcd (a * d + c * b) (b * d)).log2 < 9000) (hk : K (fr (a * d + c * b) (b * d)) S) : callX P (n+3) "plus" [.tup [.int a, .int b], .tup [.int c, .int d]] S K E := by
  refine call_of (σ := [some (.tup [.int a, .int b]), some (.tup [.int c, .int d])]) h.h_plus rfl rfl ?_
  walk_at "ev*"
  · exact w_frac h hb hl (same (P := fun S => K _ S) hk)
  all_goals assumption
theorem w_less_by (h : Has P) {n : Nat} {a b c d : Int} (m1 : mulOk a d) (m2 : mulOk c b) (m3 : mulOk b d) (hb : b * d ≠ 0) (hl : (Int.gcd (a * d - c * b) (b * d)).log2 < 9000) (hk : K (fr (a * d - c * b) (b * d)) S) : callX P (n+3) "less_by" [.tup [.int a, .int b], .tup [.int c, .int d]] S K E := by
  refine call_of (σ := [some (.tup [.int a, .int b]), some (.tup [.int c, .int d])]) h.h_less_by rfl rfl ?_
  walk_at "ev*"
  · exact w_frac h hb hl (same (P := fun S => K _ S) hk)
  all_goals assumption
theorem w_times (h : Has P) {n : Nat} {a b c d : Int} (m1 : mulOk a c) (m3 : mulOk b d) (hb : b * d ≠ 0) (hl : (Int.gcd (a * c) (b * d)).log2 < 9000) (hk : K (fr (a * c) (b * d)) S) : callX P (n+3) "times" [.tup [.int a, .int b], .tup [.int c, .int d]] S K E := by
  refine call_of (σ := [some (.tup [.int a, .int b]), some (.tup [.int c, .int d])]) h.h_times rfl rfl ?_
  walk_at "ev*"
  · exact w_frac h hb hl (same (P := fun S => K _ S) hk)
  all_goals assumption
theorem w_over (h : Has P) {n : Nat} {a b c d : Int} (m1 : mulOk a d) (m3 : mulOk b c) (hb : b * c ≠ 0) (hl : (Int.gcd (a * d) (b * c)).log2 < 9000) (hk : K (fr (a * d) (b * c)) S) : callX P (n+3) "over" [.tup [.int a, .int b], .tup [.int c, .int d]] S K E := by
  refine call_of (σ := [some (.tup [.int a, .int b]), some (.tup [.int c, .int d])]) h.h_over rfl rfl ?_
  walk_at "ev*"
  · exact w_frac h hb hl (same (P := fun S => K _ S) hk)
  all_goals assumption
theorem w_is_less (h : Has P) {n : Nat} {a b c d : Int} (m1 : mulOk a d) (m3 : mulOk c b) (hk : K (.bl (decide (a * d < c * b))) S) : callX P (n+1) "is_less" [.tup [.int a, .int b], .tup [.int c, .int d]] S K E := by
  refine call_of (σ := [some (.tup [.int a, .int b]), some (.tup [.int c, .int d])]) h.h_is_less rfl rfl ?_
  walk_at "ev*"
  · exact same (P := fun S => K _ S) hk
  all_goals assumption
theorem w_rest_of (h : Has P) {n : Nat} {a b : Int} (hb : b ≠ 0) (hl : (Int.gcd (b - a) b).log2 < 9000) (hk : K (fr (b - a) b) S) : callX P (n+3) "rest_of" [.tup [.int a, .int b]] S K E := by
  refine call_of (σ := [some (.tup [.int a, .int b])]) h.h_rest_of rfl rfl ?_
  walk_at "ev*"
  exact w_frac h hb hl (same (P := fun S => K _ S) hk)

/-- the drawing book at d: at most b draws went by -/
def Dr (S : Sto) (d : Nat) (b : Nat) : Prop := ∃ (q : Nat) (cells : List Int) (pos val seed : Nat), S d = some (.lst [.ref q, .int pos, .int val, .int seed]) ∧ S q = some (.lst (cells.map .int)) ∧ q ≠ d ∧ (∀ z ∈ cells, z.natAbs.log2 < 1048576) ∧ cells.length ≤ 63 ∧ pos ≤ b ∧ val < 2 ^ 6000 ∧ seed < 2 ^ 31
theorem log_lt {x k : Nat} (h : x < 2 ^ k) : x.log2 ≤ k := by
  by_cases e : x = 0
  · subst e; simp
  · exact Nat.le_of_lt ((Nat.log2_lt e).2 h)
theorem mul_ok {x y : Int} {a b : Nat} (h1 : x.natAbs < 2 ^ a) (h2 : y.natAbs < 2 ^ b) (h : a + b < 130000000) : mulOk x y := by
  have := log_lt h1
  have := log_lt h2
  show x.natAbs.log2 + y.natAbs.log2 < 130000000
  omega
theorem Dr.mono {S : Sto} {d a b : Nat} (h : Dr S d a) (l : a ≤ b) : Dr S d b := by
  obtain ⟨q, cells, pos, val, seed, h1, h2, h3, h4, h5, h6, h7, h8⟩ := h
  exact ⟨q, cells, pos, val, seed, h1, h2, h3, h4, h5, by omega, h7, h8⟩
theorem Dr.sub {S T : Sto} {d a : Nat} (h : Dr S d a) (l : Sub S T) : Dr T d a := by
  obtain ⟨q, cells, pos, val, seed, h1, h2, h3⟩ := h
  exact ⟨q, cells, pos, val, seed, l _ _ h1, l _ _ h2, h3⟩
theorem Dr.has {S : Sto} {d a : Nat} (h : Dr S d a) : ∃ o, S d = some o := by
  obtain ⟨q, cells, pos, val, seed, h1, _⟩ := h
  exact ⟨_, h1⟩
theorem Dr.put {S : Sto} {d a p : Nat} {o : AO} (h : Dr S d a) (hp : S p = none) : Dr (put S p o) d a := h.sub (sub_new hp)
theorem nth_map {cells : List Int} {pos : Nat} (h : pos < cells.length) : nth (cells.map D.int) (pos : Int) = some (.int cells[pos]) := by
  unfold nth ixn
  rw [if_pos (by omega), List.length_map, if_pos (by show (pos : Int) < (cells.length : Int); omega)]
  simp [h]
theorem w_draw (h : Has P) {n d b : Nat} {many : Int} (hD : Dr S d b) (hb : b < 2 ^ 60) (hm : 0 < many) (hl : many.natAbs.log2 < 9000)
    (hk : ∀ (r : Int) o, 0 ≤ r → r < many → Dr (put S d o) d (b + 1) → K (.int r) (put S d o)) : callX P (n+1) "_law_draw" [.ref d, .int many] S K E := by
  obtain ⟨q, cells, pos, val, seed, h1, h2, h3, h4, h5, h6, h7, h8⟩ := hD
  refine call_of (σ := [some (.ref d), some (.int many), none, none, none]) h.h_law_draw rfl rfl ?_
  have hme : ((many.toNat : Nat) : Int) = many := Int.toNat_of_nonneg (by omega)
  have fin : ∀ v : Nat, v < 2 ^ 6000 → ∀ (p s : Nat), p ≤ b + 1 → s < 2 ^ 31 → ∃ S'', Ev.Sub S'' (put S d (.lst [.ref q, .int p, .int ((v : Int) / many), .int s])) ∧ K (.int ((v : Int) % many)) S'' := fun v hv p s hp hs => by
    refine ⟨_, Sub.rfl', hk _ _ (Int.emod_nonneg _ (by omega)) (Int.emod_lt_of_pos _ hm) ⟨q, cells, p, v / many.toNat, s, ?_, ?_, h3, h4, h5, hp, ?_, hs⟩⟩
    · rw [put_eq, ← hme]
      rfl
    · rw [put_of h3]; exact h2
    · exact Nat.lt_of_le_of_lt (Nat.div_le_self _ _) hv
  walk_at "evs*"
  refine if_dec (fun hc => ?_) (fun hc => ?_)
  · walk_at "evs*"
    · exact fin val h7 pos seed (by omega) h8
    · exact ⟨hm, hl⟩
  walk_at "ev"
  walk_at "ev"
  walk_at "ev"
  walk_at "ev"
  walk_at "ev"
  walk_at "ev"
  refine st_cut (fun σ' S' => S' = S ∧ ∃ (size : Nat) (c : Option D), σ' = [some (.ref d), some (.int many), none, some (.int size), c]) (fun nx' hn => ?_) ?_
  · walk_at "evs*"
    refine if_dec (fun hc => ?_) (fun hc => ?_)
    · have hp : pos < cells.length := by rw [List.length_map] at hc; omega
      walk_at "evs*"
      refine ix_lst h2 (nth_map hp) ?_
      walk_at "evs*"
      · refine hn _ _ ⟨rfl, 2 * cells[pos].natAbs + (b2 (decide (cells[pos] < 0))).toNat, some (.int cells[pos]), ?_⟩
        have e : (((b2 (decide (cells[pos] < 0))).toNat : Nat) : Int) = b2 (decide (cells[pos] < 0)) := by
          unfold b2
          split <;> rfl
        show [_, _, _, _, _] = [_, _, _, _, _]
        rw [Int.natCast_add, e]
        rfl
      · have := h4 _ (List.getElem_mem hp)
        show (2 : Int).natAbs.log2 + ((cells[pos].natAbs : Int)).natAbs.log2 < 130000000
        rw [Int.natAbs_natCast]
        have : (2 : Int).natAbs.log2 = 1 := by decide
        omega
    · walk_at "evs*"
      exact hn _ _ ⟨rfl, 0, none, rfl⟩
  · rintro σ' S' ⟨rfl, size, c, rfl⟩
    walk_at "evs*"
    · refine if_dec (fun hs => ?_) (fun hs => ?_)
      · obtain ⟨v, ev, hv⟩ : ∃ v : Nat, ((size : Int) / 2 % (1 * 2 ^ Int.toNat 6000)) = v ∧ v < 2 ^ 6000 := by
          refine ⟨size / 2 % 2 ^ 6000, ?_, Nat.mod_lt _ (Nat.two_pow_pos 6000)⟩
          rw [Int.one_mul, show Int.toNat 6000 = 6000 from rfl, Int.natCast_emod, Int.natCast_ediv, Int.natCast_pow]
          rfl
        walk_at "evs*"
        · rw [put_put, ev]
          exact fin v hv (pos + 1) seed (by omega) h8
        · exact ⟨hm, hl⟩
        · rw [Int.one_mul]
          exact Int.pow_pos (by decide)
      · walk_at "evs*"
        · obtain ⟨v, ev, hv⟩ : ∃ v : Nat, ((seed * 69069 + size % 2147483629 * 40692 + (pos + 1) * 40014 + 29 : Int) % 2147483647) = v ∧ v < 2 ^ 31 := by
            refine ⟨((seed * 69069 + size % 2147483629 * 40692 + (pos + 1) * 40014 + 29 : Int) % 2147483647).toNat, ?_, ?_⟩
            · rw [Int.toNat_of_nonneg (Int.emod_nonneg _ (by decide))]
            · have h1 := Int.emod_lt_of_pos (seed * 69069 + size % 2147483629 * 40692 + (pos + 1) * 40014 + 29 : Int) (show (0 : Int) < 2147483647 by decide)
              have h2 := Int.emod_nonneg (seed * 69069 + size % 2147483629 * 40692 + (pos + 1) * 40014 + 29 : Int) (show (2147483647 : Int) ≠ 0 by decide)
              omega
          rw [put_put, ev]
          refine ⟨_, Sub.rfl', hk _ _ (Int.emod_nonneg _ (by omega)) (Int.emod_lt_of_pos _ hm) ⟨q, cells, pos + 1, val, v, ?_, ?_, h3, h4, h5, by omega, h7, hv⟩⟩
          · rw [put_eq]
            rfl
          · rw [put_of h3]
            exact h2
        · exact mul_ok (a := 61) (b := 16) (by omega) (by decide) (by decide)
        · exact mul_ok (a := 31) (b := 16) (by have h1 := Int.emod_lt_of_pos (size : Int) (show (0 : Int) < 2147483629 by decide); have h2 := Int.emod_nonneg (size : Int) (show (2147483629 : Int) ≠ 0 by decide); omega) (by decide) (by decide)
        · exact mul_ok (a := 31) (b := 17) (by rw [Int.natAbs_natCast]; exact h8) (by decide) (by decide)
    · exact mul_ok (a := 2) (b := 64) (by decide) (by decide) (by decide)
theorem w_begin (h : Has P) {n : Nat} {cells : List Int} (hc : ∀ z ∈ cells, z.natAbs.log2 < 1048576) (hl : cells.length ≤ 63) (hk : ∀ d S', Sub S S' → S d = none → Dr S' d 0 → K (.ref d) S') : callX P (n+1) "_law_begin" [.fz (cells.map .int)] S K E := by
  refine call_of (σ := [some (.fz (cells.map .int)), none]) h.h_law_begin rfl rfl ?_
  walk_at "evs*"
  refine lc_inv (fun i a S' => S' = S ∧ a = (cells.map D.int).take i) ⟨rfl, rfl⟩ (fun _ _ _ _ _ => trivial) ?_ ?_ ?_
  · rintro i a S' Kt hi ⟨rfl, rfl⟩ h1 h2
    rw [List.getElem_map]
    walk_at "evs*"
    refine h1 _ _ ⟨rfl, ?_⟩ ?_
    · rw [List.take_succ, List.getElem?_eq_getElem hi, List.getElem_map]
      rfl
    · rw [List.length_take]
      rw [List.length_map] at hi ⊢
      show min i cells.length < 16777216
      omega
  · rintro i a S' ⟨rfl, rfl⟩ hi
    rw [List.length_take]
    rw [List.length_map] at hi ⊢
    show min i cells.length < 16777216
    omega
  · rintro a S' ⟨rfl, rfl⟩
    rw [List.take_length]
    intro q hq
    walk_at "evs*"
    intro d hd
    have hqd : q ≠ d := by
      rintro rfl
      rw [put_eq] at hd
      cases hd
    have hd' : S' d = none := by rwa [put_of hqd.symm] at hd
    refine ⟨_, Sub.rfl', hk _ _ ((sub_new hq).trans' (sub_new hd)) hd' ⟨q, cells, 0, 0, 17, put_eq, ?_, hqd, hc, hl, Nat.le_refl _, Nat.two_pow_pos _, by decide⟩⟩
    rw [put_of hqd]
    exact put_eq
theorem w_pick (h : Has P) {n d b p : Nat} {l : List D} (hD : Dr S d b) (hb : b < 2 ^ 60) (hp : S p = some (.lst l)) (hl : 0 < l.length) (hz : l.length < 2 ^ 60) (hpd : p ≠ d)
    (hk : ∀ x o, x ∈ l → Dr (put S d o) d (b + 1) → K x (put S d o)) : callX P (n+2) "_law_pick" [.ref d, .ref p] S K E := by
  refine call_of (σ := [some (.ref d), some (.ref p)]) h.h_law_pick rfl rfl ?_
  walk_at "evs*"
  refine w_draw h hD hb (by omega) (Nat.lt_of_le_of_lt (log_lt (k := 60) (by rw [Int.natAbs_natCast]; exact hz)) (by decide)) fun r o h0 h1 hD' => ?_
  have e : ((r.toNat : Nat) : Int) = r := Int.toNat_of_nonneg h0
  have hr : r.toNat < l.length := by omega
  refine ix_lst (l := l) (d := l[r.toNat]) ((put_of hpd).trans hp) ?_ (same (P := fun S => K _ S) (hk _ o (List.getElem_mem hr) hD'))
  unfold nth ixn
  rw [if_pos h0, if_pos (by show r < (l.length : Int); omega)]
  simp [hr]
theorem w_rare (h : Has P) {n d b : Nat} {many : Int} (hD : Dr S d b) (hb : b < 2 ^ 60) (hm : 0 < many) (hl : many.natAbs.log2 < 9000)
    (hk : ∀ c o, Dr (put S d o) d (b + 1) → K (.bl c) (put S d o)) : callX P (n+2) "_law_rare" [.ref d, .int many] S K E := by
  refine call_of (σ := [some (.ref d), some (.int many)]) h.h_law_rare rfl rfl ?_
  walk_at "evs*"
  refine w_draw h hD hb hm hl fun r o h0 h1 hD' => ?_
  walk_at "evs*"
  exact same (P := fun S => K _ S) (hk _ o hD')

/-- neither an object nor a locked list -/
def itm : D → Bool
  | .ref _ => false
  | .fz _ => false
  | _ => true
/-- what the checks are asked of -/
def thg (S : Sto) : D → Prop
  | .fz _ => False
  | .ref n => ∃ l, S n = some (.lst l)
  | .tup l => l.all itm = true
  | _ => True
def isI : D → Bool
  | .int _ => true
  | _ => false
def isFr : D → Bool
  | .tup [.int x, .int y] => decide (1 ≤ y) && (Int.gcd x y == 1)
  | _ => false
theorem w_is_int (h : Has P) {n : Nat} {d : D} (hd : itm d = true ∨ ∃ m l, d = .ref m ∧ S m = some (.lst l)) (hk : K (.bl (isI d)) S) : callX P (n+1) "_law_is_int" [d] S K E := by
  refine call_of (σ := [some d]) h.h_law_is_int rfl rfl ?_
  rcases hd with hd | ⟨m, l, rfl, hl⟩
  · cases d <;> first | (cases hd; done) | (walk_at "evs*"; exact same (P := fun S => K _ S) hk)
  · walk_at "evs*"
    exact same (P := fun S => K _ S) hk
theorem w_says (h : Has P) {n : Nat} {a b : Bool} (hk : K (.bl (a == b)) S) : callX P (n+1) "_law_says" [.bl a, .bl b] S K E := by
  refine call_of (σ := [some (.bl a), some (.bl b)]) h.h_law_says rfl rfl ?_
  walk_at "evs*"
  exact same (P := fun S => K _ S) hk
theorem w_lgcd (h : Has P) {n : Nat} {a b : Int} (hk : K (.int (Int.gcd a b)) S) : callX P (n+1) "_law_gcd" [.int a, .int b] S K E := by
  refine call_of (σ := [some (.int a), some (.int b)]) h.h_law_gcd rfl rfl ?_
  walk_at "ev*"
  refine st_whl' (fun m σ T => T = S ∧ ∃ x y : Nat, σ = [some (.int x), some (.int y)] ∧ Nat.gcd x y = Int.gcd a b ∧ m = y) _ ⟨rfl, _, _, rfl, rfl, rfl⟩ ?_
  rintro m σ T ⟨rfl, x, y, rfl, hg, rfl⟩
  walk_at "ev*"
  refine if_both (fun hb => ?_) (fun hb => ?_)
  · have hy : m ≠ 0 := by rintro rfl; simp at hb
    walk_at "ev*"
    refine ⟨x % m, Nat.mod_lt _ (Nat.pos_of_ne_zero hy), rfl, m, x % m, rfl, ?_, rfl⟩
    rw [← hg, Nat.gcd_comm x m, Nat.gcd_rec m x, Nat.gcd_comm]
  · have hy : m = 0 := by simpa using hb
    subst hy
    walk_at "ev*"
    rw [Nat.gcd_zero_right] at hg
    subst hg
    exact same (P := fun S => K _ S) hk
theorem w_lfrac (h : Has P) {n : Nat} {a b : Int} (hb : b ≠ 0) (hl : (Int.gcd a b).log2 < 9000) (hk : K (fr a b) S) : callX P (n+2) "_law_frac" [.int a, .int b] S K E := by
  refine call_of (σ := [some (.int a), some (.int b), none]) h.h_law_frac rfl rfl ?_
  have hp := gcd_pos (a := a) hb
  unfold fr at hk
  walk_at "ev*"
  refine if_dec (fun hc => ?_) (fun hc => ?_)
  · rw [if_pos hc] at hk
    walk_at "ev*"
    refine w_lgcd h ?_
    have e : Int.gcd (-a) (-b) = Int.gcd a b := by rw [Int.gcd_neg, Int.neg_gcd]
    rw [e]
    walk_at "ev*"
    · exact same (P := fun S => K _ S) hk
    all_goals exact ⟨hp, by rw [natAbs_cast]; exact hl⟩
  · rw [if_neg hc] at hk
    walk_at "ev*"
    refine w_lgcd h ?_
    walk_at "ev*"
    · exact same (P := fun S => K _ S) hk
    all_goals exact ⟨hp, by rw [natAbs_cast]; exact hl⟩
theorem isFr_two {x y : D} (h : ¬(isI x = true ∧ isI y = true)) : isFr (.tup [x, y]) = false := by
  cases x <;> first | rfl | skip
  cases y <;> first | rfl | exact absurd ⟨rfl, rfl⟩ h
theorem isFr_len {l : List D} (h : l.length ≠ 2) : isFr (.tup l) = false := by
  rcases l with _ | ⟨x, _ | ⟨y, _ | ⟨z, l⟩⟩⟩ <;> first | rfl | (exact absurd rfl h) | skip
  · cases x <;> rfl
  · cases x <;> first | rfl | (cases y <;> rfl)
theorem beq_cast (x : Nat) : ((x : Int) == 1) = (x == 1) := by
  rw [Bool.eq_iff_iff, beq_iff_eq, beq_iff_eq]
  omega
theorem w_is_frac (h : Has P) {n : Nat} {d : D} (hd : thg S d) (hk : K (.bl (isFr d)) S) : callX P (n+2) "is_frac" [d] S K E := by
  refine call_of (σ := [some d, none]) h.h_is_frac rfl rfl ?_
  cases d with
  | fz l => exact hd.elim
  | ref m =>
    obtain ⟨l, hl⟩ := hd
    walk_at "evs*"
    exact same (P := fun S => K _ S) hk
  | tup l =>
    walk_at "evs*"
    refine if_both (fun hc => ?_) (fun hc => ?_)
    · have hl : l.length ≠ 2 := by
        intro e
        rw [e] at hc
        simp at hc
      rw [isFr_len hl] at hk
      walk_at "evs*"
      exact same (P := fun S => K _ S) hk
    · have hl : l.length = 2 := by
        simp at hc
        omega
      rcases l with _ | ⟨x, _ | ⟨y, _ | ⟨z, l⟩⟩⟩ <;> first | (simp at hl; done) | skip
      simp only [thg, List.all_cons, List.all_nil, Bool.and_true, Bool.and_eq_true] at hd
      obtain ⟨hx, hy⟩ := hd
      walk_at "evs*"
      refine fw_cons trivial ?_
      cases x <;> first | (cases hx; done) | skip
      case int x =>
        walk_at "evs*"
        refine fw_cons trivial ?_
        cases y <;> first | (cases hy; done) | skip
        case int y =>
          walk_at "evs*"
          refine fw_nil trivial ?_
          walk_at "evs*"
          refine if_dec (fun hc => ?_) (fun hc => ?_)
          · walk_at "evs*"
            refine w_common h ?_
            walk_at "evs*"
            simp only [isFr, hc, decide_true, Bool.true_and] at hk
            rw [beq_cast]
            exact same (P := fun S => K _ S) hk
          · walk_at "evs*"
            have e : decide (1 ≤ y) = false := by simpa using hc
            simp only [isFr, e, Bool.false_and] at hk
            rw [e]
            exact same (P := fun S => K _ S) hk
        all_goals
          walk_at "evs*"
          exact same (P := fun S => K _ S) hk
      all_goals
        have hk' : K (.bl false) S := by
          rwa [isFr_two (by rintro ⟨h1, _⟩; cases h1)] at hk
        walk_at "evs*"
        exact same (P := fun S => K _ S) hk'
  | _ =>
    walk_at "evs*"
    exact same (P := fun S => K _ S) hk
theorem w_lis_frac (h : Has P) {n : Nat} {d : D} (hd : thg S d) (hk : K (.bl (isFr d)) S) : callX P (n+2) "_law_is_frac" [d] S K E := by
  refine call_of (σ := [some d]) h.h_law_is_frac rfl rfl ?_
  cases d with
  | fz l => exact hd.elim
  | ref m =>
    obtain ⟨l, hl⟩ := hd
    walk_at "evs*"
    exact same (P := fun S => K _ S) hk
  | tup l =>
    walk_at "evs*"
    refine if_both (fun hc => ?_) (fun hc => ?_)
    · have hl : l.length ≠ 2 := by
        intro e
        rw [e] at hc
        simp at hc
      rw [isFr_len hl] at hk
      walk_at "evs*"
      exact same (P := fun S => K _ S) hk
    · have hl : l.length = 2 := by
        simp at hc
        omega
      rcases l with _ | ⟨x, _ | ⟨y, _ | ⟨z, l⟩⟩⟩ <;> first | (simp at hl; done) | skip
      simp only [thg, List.all_cons, List.all_nil, Bool.and_true, Bool.and_eq_true] at hd
      obtain ⟨hx, hy⟩ := hd
      walk_at "evs*"
      refine w_is_int h (.inl hx) ?_
      cases x <;> first | (cases hx; done) | skip
      case int x =>
        walk_at "evs*"
        refine w_is_int h (.inl hy) ?_
        cases y <;> first | (cases hy; done) | skip
        case int y =>
          walk_at "evs*"
          refine if_dec (fun hc => ?_) (fun hc => ?_)
          · walk_at "evs*"
            refine w_lgcd h ?_
            walk_at "evs*"
            simp only [isFr, hc, decide_true, Bool.true_and] at hk
            rw [beq_cast]
            exact same (P := fun S => K _ S) hk
          · walk_at "evs*"
            have e : decide (1 ≤ y) = false := by simpa using hc
            simp only [isFr, e, Bool.false_and] at hk
            rw [e]
            exact same (P := fun S => K _ S) hk
        all_goals
          walk_at "evs*"
          exact same (P := fun S => K _ S) hk
      all_goals
        have hk' : K (.bl false) S := by
          rwa [isFr_two (by rintro ⟨h1, _⟩; cases h1)] at hk
        walk_at "evs*"
        exact same (P := fun S => K _ S) hk'
  | _ =>
    walk_at "evs*"
    exact same (P := fun S => K _ S) hk
def isCh : D → Bool
  | .tup [.int x, .int y] => decide (0 < x) && decide (x < y)
  | _ => false
theorem isFr_form {d : D} (h : isFr d = true) : ∃ x y : Int, d = .tup [.int x, .int y] ∧ 1 ≤ y ∧ Int.gcd x y = 1 := by
  unfold isFr at h
  split at h
  · rw [Bool.and_eq_true, decide_eq_true_eq, beq_iff_eq] at h
    exact ⟨_, _, rfl, h.1, h.2⟩
  · cases h
theorem w_is_chance (h : Has P) {n : Nat} {d : D} (hd : thg S d) (hk : K (.bl (isFr d && isCh d)) S) : callX P (n+3) "is_chance" [d] S K E := by
  refine call_of (σ := [some d]) h.h_is_chance rfl rfl ?_
  walk_at "evs*"
  refine w_is_frac h hd ?_
  walk_at "evs*"
  refine if_both (fun hc => ?_) (fun hc => ?_)
  · obtain ⟨x, y, rfl, _, _⟩ := isFr_form hc
    rw [hc, Bool.true_and] at hk
    walk_at "evs*"
    refine if_dec (fun hc => ?_) (fun hc => ?_)
    · walk_at "evs*"
      simp only [isCh, hc, decide_true, Bool.true_and] at hk
      exact same (P := fun S => K _ S) hk
    · simp only [isCh, hc, decide_false, Bool.false_and] at hk
      exact same (P := fun S => K _ S) hk
  · rw [hc, Bool.false_and] at hk
    rw [hc]
    exact same (P := fun S => K _ S) hk
/-- told is the fraction top/bottom in lowest terms -/
theorem w_tells (h : Has P) {n : Nat} {x y a b : Int} (m1 : mulOk x b) (m2 : mulOk a y) (hy : 1 ≤ y) (hg : Int.gcd x y = 1) (he : x * b = a * y) (hk : K (.bl true) S) : callX P (n+3) "_law_tells" [.tup [.int x, .int y], .int a, .int b] S K E := by
  refine call_of (σ := [some (.tup [.int x, .int y]), some (.int a), some (.int b)]) h.h_law_tells rfl rfl ?_
  walk_at "evs*"
  refine w_lis_frac h rfl ?_
  have e : isFr (.tup [.int x, .int y]) = true := by simp [isFr, hy, hg]
  rw [e]
  walk_at "evs*"
  · rw [he, beq_self_eq_true]
    exact same (P := fun S => K _ S) hk
  all_goals assumption

/-- all but d stays -/
def Gr (d : Nat) (S S' : Sto) : Prop := ∀ a u, a ≠ d → S a = some u → S' a = some u
theorem Gr.refl {d : Nat} {S : Sto} : Gr d S S := fun _ _ _ h => h
theorem Gr.trans {d : Nat} {S T U : Sto} (h : Gr d S T) (k : Gr d T U) : Gr d S U := fun a u n e => k a u n (h a u n e)
theorem Gr.put {d : Nat} {S : Sto} {o : AO} : Gr d S (put S d o) := fun a u n e => by rw [put_of n]; exact e
theorem Gr.new {d p : Nat} {S : Sto} {o : AO} (h : S p = none) : Gr d S (Ev.put S p o) := fun a u n e => sub_new h a u e
theorem Gr.sub {d : Nat} {S T : Sto} (h : Sub S T) : Gr d S T := fun a u _ e => h a u e
theorem g_draw (h : Has P) {n d b : Nat} {many : Int} (hD : Dr S d b) (hb : b < 2 ^ 60) (hm : 0 < many) (hl : many.natAbs.log2 < 9000)
    (hk : ∀ (r : Int) S', 0 ≤ r → r < many → Gr d S S' → Dr S' d (b + 1) → K (.int r) S') : callX P (n+1) "_law_draw" [.ref d, .int many] S K E :=
  w_draw h hD hb hm hl fun r o h0 h1 hD' => hk r _ h0 h1 Gr.put hD'
theorem g_pick (h : Has P) {n d b p : Nat} {l : List D} (hD : Dr S d b) (hb : b < 2 ^ 60) (hp : S p = some (.lst l)) (hl : 0 < l.length) (hz : l.length < 2 ^ 60) (hpd : p ≠ d)
    (hk : ∀ x S', x ∈ l → Gr d S S' → Dr S' d (b + 1) → K x S') : callX P (n+2) "_law_pick" [.ref d, .ref p] S K E :=
  w_pick h hD hb hp hl hz hpd fun x o hx hD' => hk x _ hx Gr.put hD'
theorem g_rare (h : Has P) {n d b : Nat} {many : Int} (hD : Dr S d b) (hb : b < 2 ^ 60) (hm : 0 < many) (hl : many.natAbs.log2 < 9000)
    (hk : ∀ c S', Gr d S S' → Dr S' d (b + 1) → K (.bl c) S') : callX P (n+2) "_law_rare" [.ref d, .int many] S K E :=
  w_rare h hD hb hm hl fun c o hD' => hk c _ Gr.put hD'

theorem getElem_rng {n i : Nat} {f : Nat → D} (h : i < ((List.range n).map f).length) : ((List.range n).map f)[i] = f i := by simp
theorem w_number (h : Has P) {n d b : Nat} (hD : Dr S d b) (hb : b + 20 < 2 ^ 60)
    (hk : ∀ (z : Int) S', z.natAbs < 2 ^ 101 → Gr d S S' → Dr S' d (b + 10) → K (.int z) S') : callX P (n+2) "_law_number" [.ref d] S K E := by
  refine call_of (σ := [some (.ref d), none, none, none]) h.h_law_number rfl rfl ?_
  walk_at "evs*"
  refine g_draw h hD (by omega) (by decide) (by decide) fun way S1 w0 w1 g1 D1 => ?_
  walk_at "evs*"
  refine if_dec (fun hc => ?_) (fun hc => ?_)
  · walk_at "evs*"
    refine g_draw h D1 (by omega) (by decide) (by decide) fun r S2 r0 r1 g2 D2 => ?_
    walk_at "evs*"
    exact same (hk _ _ (by omega) (g1.trans g2) (D2.mono (by omega)))
  walk_at "evs*"
  refine if_both (fun hw => ?_) (fun hw => ?_)
  · walk_at "evs*"
    refine g_draw h D1 (by omega) (by decide) (by decide) fun r S2 r0 r1 g2 D2 => ?_
    walk_at "evs*"
    exact same (hk _ _ (by omega) (g1.trans g2) (D2.mono (by omega)))
  have hw2 : way ≠ 2 := by simpa using hw
  walk_at "evs*"
  · refine ⟨⟨by omega, by omega⟩, ?_⟩
    refine for_inv (fun i σ S' => ∃ (f : Nat) (w3 : Option D), σ = [some (.ref d), some (.int way), some (.int f), w3] ∧ f < 2 ^ (20 * i) ∧ Gr d S S' ∧ Dr S' d (b + 1 + i)) ⟨0, none, rfl, by decide, g1, D1⟩ (fun _ _ _ _ _ => trivial) ?_ ?_
    · rintro i σ S' K' hi ⟨f, w3, rfl, hf, g2, D2⟩ hK
      rw [getElem_rng hi]
      rw [List.length_map, List.length_range] at hi
      walk_at "evs*"
      · refine g_draw h D2 (by omega) (by decide) (by decide) fun r S2 r0 r1 g3 D3 => ?_
        walk_at "evs*"
        refine hK _ _ ⟨f * 1000003 + r.toNat, some (.int i), ?_, ?_, g2.trans g3, D3⟩
        · have e : ((f * 1000003 + r.toNat : Nat) : Int) = f * 1000003 + r := by omega
          rw [e]
          rfl
        · have e : 2 ^ (20 * (i + 1)) = 2 ^ (20 * i) * 1048576 := by rw [Nat.mul_add, Nat.pow_add]
          rw [e]
          omega
      · have : 2 ^ (20 * i) ≤ 2 ^ 100 := Nat.pow_le_pow_right (by decide) (by omega)
        exact mul_ok (a := 100) (b := 20) (by rw [Int.natAbs_natCast]; omega) (by decide) (by decide)
    · rintro σ S' ⟨f, w3, rfl, hf, g2, D2⟩
      rw [List.length_map, List.length_range] at hf D2
      have hf2 : f < 2 ^ 100 := Nat.lt_of_lt_of_le hf (Nat.pow_le_pow_right (by decide) (by omega))
      walk_at "evs*"
      refine g_draw h D2 (by omega) (by decide) (by decide) fun r S2 r0 r1 g3 D3 => ?_
      walk_at "evs*"
      refine if_both (fun hw => ?_) (fun hw => ?_)
      · walk_at "evs*"
        exact same (hk _ _ (by rw [Int.natAbs_natCast]; omega) (g2.trans g3) (D3.mono (by omega)))
      · walk_at "evs*"
        exact same (hk _ _ (by rw [Int.natAbs_neg, Int.natAbs_natCast]; omega) (g2.trans g3) (D3.mono (by omega)))
  · exact mul_ok (a := 2) (b := 3) (by decide) (by omega) (by decide)

theorem w_parts (h : Has P) {n d b : Nat} (hD : Dr S d b) (hb : b + 300 < 2 ^ 60)
    (hk : ∀ (x y : Int) S', y ≠ 0 → x.natAbs < 2 ^ 170 → y.natAbs < 2 ^ 170 → Gr d S S' → Dr S' d (b + 50) → K (.tup [.int x, .int y]) S') : callX P (n+3) "_law_parts" [.ref d] S K E := by
  refine call_of (σ := [some (.ref d), none, none, none, none]) h.h_law_parts rfl rfl ?_
  walk_at "evs*"
  refine w_number h hD (by omega) fun x0 S1 hx0 g1 D1 => ?_
  walk_at "evs*"
  refine w_number h D1 (by omega) fun y0 S2 hy0 g2 D2 => ?_
  walk_at "e0s*"
  refine st_cut (fun σ' S' => ∃ (x y : Int) (w3 : Option D), σ' = [some (.ref d), some (.int x), some (.int y), w3, none] ∧ x.natAbs < 2 ^ 150 ∧ y.natAbs < 2 ^ 150 ∧ Gr d S S' ∧ Dr S' d (b + 30)) (fun nx' hn => ?_) ?_
  · walk_at "evs*"
    refine g_rare h D2 (by omega) (by decide) (by decide) fun c S3 g3 D3 => ?_
    walk_at "evs*"
    refine if_both (fun hw => ?_) (fun hw => ?_)
    · walk_at "evs*"
      refine g_draw h D3 (by omega) (by decide) (by decide) fun r S4 r0 r1 g4 D4 => ?_
      walk_at "evs*"
      refine ⟨⟨by omega, by omega⟩, ?_⟩
      refine for_inv (fun i σ S' => S' = S4 ∧ ∃ (x y : Nat) (w3 : Option D), σ = [some (.ref d), some (.int x), some (.int y), w3, none] ∧ x < 2 ^ (i + 1) ∧ y < 2 ^ (i + 1)) ⟨rfl, 1, 1, none, rfl, by decide, by decide⟩ (fun _ _ _ _ _ => trivial) ?_ ?_
      · rintro i σ S' K' hi ⟨rfl, x, y, w3, rfl, hx, hy⟩ hK
        rw [getElem_rng hi]
        walk_at "evs*"
        refine hK _ _ ⟨rfl, y, x + y, some (.int i), rfl, ?_, ?_⟩
        · have := Nat.pow_succ (n := 2) (m := i + 1)
          omega
        · have := Nat.pow_succ (n := 2) (m := i + 1)
          omega
      · rintro σ S' ⟨rfl, x, y, w3, rfl, hx, hy⟩
        rw [List.length_map, List.length_range] at hx hy
        have hp : 2 ^ (r.toNat + 1) ≤ 2 ^ 149 := Nat.pow_le_pow_right (by decide) (by omega)
        walk_at "evs*"
        exact hn _ _ ⟨x, y, w3, rfl, by omega, by omega, ((g1.trans g2).trans g3).trans g4, D4.mono (by omega)⟩
    · walk_at "evs*"
      exact hn _ _ ⟨x0, y0, none, rfl, by omega, by omega, (g1.trans g2).trans g3, D3.mono (by omega)⟩
  rintro σ' S3 ⟨x, y, w3, rfl, hx, hy, g3, D3⟩
  walk_at "e0s*"
  refine st_cut (fun σ' S' => ∃ (y : Int), σ' = [some (.ref d), some (.int x), some (.int y), w3, none] ∧ y ≠ 0 ∧ y.natAbs < 2 ^ 150 ∧ Gr d S S' ∧ Dr S' d (b + 31)) (fun nx' hn => ?_) ?_
  · walk_at "evs*"
    refine if_both (fun hw => ?_) (fun hw => ?_)
    · walk_at "evs*"
      refine g_draw h D3 (by omega) (by decide) (by decide) fun r S4 r0 r1 g4 D4 => ?_
      walk_at "evs*"
      exact hn _ _ ⟨1 + r, rfl, by omega, by omega, g3.trans g4, D4⟩
    · walk_at "evs*"
      exact hn _ _ ⟨y, rfl, by simpa using hw, hy, g3, D3.mono (by omega)⟩
  rintro σ' S4 ⟨y, rfl, hy0, hy, g4, D4⟩
  walk_at "evs*"
  intro q hq
  have hqd : q ≠ d := by
    rintro rfl
    obtain ⟨o, e⟩ := D4.has
    rw [e] at hq
    cases hq
  walk_at "evs*"
  refine g_pick h (D4.put hq) (by omega) put_eq (by decide) (by decide) hqd fun f S5 hf g5 D5 => ?_
  obtain ⟨z, rfl, hz0, hz⟩ : ∃ z : Int, f = .int z ∧ z ≠ 0 ∧ z.natAbs < 2 ^ 20 := by
    simp only [List.mem_cons, List.not_mem_nil, or_false] at hf
    rcases hf with rfl | rfl | rfl | rfl | rfl | rfl <;> exact ⟨_, rfl, by decide, by decide⟩
  have e170 : (2 : Nat) ^ 170 = 2 ^ 150 * 2 ^ 20 := by decide
  walk_at "evs*"
  · refine same (hk _ _ _ (Int.mul_ne_zero hy0 hz0) ?_ ?_ ((g4.trans (Gr.new hq)).trans g5) (D5.mono (by omega)))
    · rw [Int.natAbs_mul, e170]
      exact Nat.mul_lt_mul'' hx hz
    · rw [Int.natAbs_mul, e170]
      exact Nat.mul_lt_mul'' hy hz
  · exact mul_ok hy hz (by decide)
  · exact mul_ok hx hz (by decide)

theorem fr_form {a b : Int} (hb : b ≠ 0) : ∃ x y : Int, fr a b = .tup [.int x, .int y] ∧ 1 ≤ y ∧ Int.gcd x y = 1 ∧ x * b = a * y ∧ x.natAbs ≤ a.natAbs ∧ y.natAbs ≤ b.natAbs := by
  have hp := gcd_pos (a := a) hb
  obtain ⟨a', ha⟩ := Int.gcd_dvd_left (a := a) (b := b)
  obtain ⟨b', hb'⟩ := Int.gcd_dvd_right (a := a) (b := b)
  generalize hg : (Int.gcd a b : Int) = g at *
  have hc : Int.gcd a' b' = 1 := by
    have e : Int.gcd (g * a') (g * b') = g.natAbs * Int.gcd a' b' := Int.gcd_mul_left ..
    rw [← ha, ← hb'] at e
    have e2 : g.natAbs = Int.gcd a b := by omega
    rw [← e2] at e
    have h0 : 0 < g.natAbs := by omega
    exact Nat.eq_of_mul_eq_mul_left h0 (by omega)
  have e1 : a / g = a' := by rw [ha]; exact Int.mul_ediv_cancel_left _ (by omega)
  have e2 : b / g = b' := by rw [hb']; exact Int.mul_ediv_cancel_left _ (by omega)
  have e3 : -a / g = -a' := by rw [ha, ← Int.mul_neg]; exact Int.mul_ediv_cancel_left _ (by omega)
  have e4 : -b / g = -b' := by rw [hb', ← Int.mul_neg]; exact Int.mul_ediv_cancel_left _ (by omega)
  have le : ∀ z z' : Int, z = g * z' → z'.natAbs ≤ z.natAbs := fun z z' e => by
    rw [e, Int.natAbs_mul]
    exact Nat.le_mul_of_pos_left _ (by omega)
  unfold fr
  rw [hg]
  by_cases hn : b < 0
  · rw [if_pos hn, e3, e4]
    refine ⟨-a', -b', rfl, ?_, ?_, ?_, ?_, ?_⟩
    · have : b' < 0 := by
        rcases Int.lt_or_le b' 0 with h | h
        · exact h
        · have := Int.mul_nonneg (Int.le_of_lt hp) h
          omega
      omega
    · rw [Int.gcd_neg, Int.neg_gcd, hc]
    · rw [ha, hb']; grind
    · rw [Int.natAbs_neg]; exact le a a' ha
    · rw [Int.natAbs_neg]; exact le b b' hb'
  · rw [if_neg hn, e1, e2]
    refine ⟨a', b', rfl, ?_, hc, ?_, le a a' ha, le b b' hb'⟩
    · have : 0 < b' := by
        rcases Int.lt_or_le 0 b' with h | h
        · exact h
        · have := Int.mul_nonneg (Int.le_of_lt hp) (show 0 ≤ -b' by omega)
          grind
      omega
    · rw [ha, hb']; grind
theorem dvd_cop {x y z : Int} (h : x ∣ y * z) (c : Int.gcd y x = 1) : x ∣ z := by
  rw [← Int.natAbs_dvd_natAbs] at h ⊢
  rw [Int.natAbs_mul] at h
  have c' : Nat.Coprime x.natAbs y.natAbs := by
    show Nat.gcd x.natAbs y.natAbs = 1
    rw [Nat.gcd_comm]
    exact c
  exact c'.dvd_of_dvd_mul_left h
theorem fr_cross {a b c d : Int} (hb : b ≠ 0) (hd : d ≠ 0) (e : a * d = c * b) : fr a b = fr c d := by
  obtain ⟨x, y, h1, h2, h3, h4, _, _⟩ := fr_form (a := a) hb
  obtain ⟨u, v, k1, k2, k3, k4, _, _⟩ := fr_form (a := c) hd
  rw [h1, k1]
  have e1 : x * v = u * y := by
    have q : (b * d) * (x * v) = (b * d) * (u * y) := by grind
    exact Int.eq_of_mul_eq_mul_left (Int.mul_ne_zero hb hd) q
  have d1 : y ∣ v := by
    have : y ∣ x * v := ⟨u, by grind⟩
    exact dvd_cop this h3
  have d2 : v ∣ y := by
    have : v ∣ u * y := ⟨x, by grind⟩
    exact dvd_cop this k3
  have l1 := Int.le_of_dvd (by omega) d1
  have l2 := Int.le_of_dvd (by omega) d2
  have ey : y = v := by omega
  subst ey
  have ex : x = u := Int.eq_of_mul_eq_mul_right (by omega) e1
  rw [ex]
theorem gcd_log {a b : Int} {k : Nat} (hb : b ≠ 0) (h : b.natAbs < 2 ^ k) : (Int.gcd a b).log2 ≤ k := by
  have : Int.gcd a b ≤ b.natAbs := Int.gcd_le_natAbs_right a hb
  exact log_lt (Nat.lt_of_le_of_lt this h)
theorem bd_mul {x y : Int} {a b : Nat} (h1 : x.natAbs < 2 ^ a) (h2 : y.natAbs < 2 ^ b) : (x * y).natAbs < 2 ^ (a + b) := by
  rw [Int.natAbs_mul, Nat.pow_add]
  exact Nat.mul_lt_mul'' h1 h2
theorem bd_add {x y : Int} {a : Nat} (h1 : x.natAbs < 2 ^ a) (h2 : y.natAbs < 2 ^ a) : (x + y).natAbs < 2 ^ (a + 1) := by
  rw [Nat.pow_succ]
  omega
theorem bd_sub {x y : Int} {a : Nat} (h1 : x.natAbs < 2 ^ a) (h2 : y.natAbs < 2 ^ a) : (x - y).natAbs < 2 ^ (a + 1) := by
  rw [Nat.pow_succ]
  omega
theorem bd_le {x : Int} {a b : Nat} (h1 : x.natAbs < 2 ^ a) (h : a ≤ b) : x.natAbs < 2 ^ b := Nat.lt_of_lt_of_le h1 (Nat.pow_le_pow_right (by decide) h)
/-- fr a b told as a/b -/
theorem tells_fr (h : Has P) {n : Nat} {a b : Int} {w : Nat} (hb : b ≠ 0) (ha : a.natAbs < 2 ^ w) (hb2 : b.natAbs < 2 ^ w) (hw : w < 60000000) (hk : K (.bl true) S) : callX P (n+3) "_law_tells" [fr a b, .int a, .int b] S K E := by
  obtain ⟨x, y, h1, h2, h3, h4, h5, h6⟩ := fr_form (a := a) hb
  rw [h1]
  exact w_tells h (mul_ok (a := w) (b := w) (Nat.lt_of_le_of_lt h5 ha) hb2 (by omega)) (mul_ok (a := w) (b := w) ha (Nat.lt_of_le_of_lt h6 hb2) (by omega)) h2 h3 h4 hk
/-- a fraction in lowest terms of at most w bits -/
def Lo (w : Nat) (d : D) (x y : Int) : Prop := d = .tup [.int x, .int y] ∧ 1 ≤ y ∧ Int.gcd x y = 1 ∧ x.natAbs < 2 ^ w ∧ y.natAbs < 2 ^ w
theorem w_two (h : Has P) {n : Nat} {a b c e : Int} {w : Nat} (hb : 1 ≤ b) (he : 1 ≤ e) (ha : a.natAbs < 2 ^ w) (hb2 : b.natAbs < 2 ^ w) (hc : c.natAbs < 2 ^ w) (he2 : e.natAbs < 2 ^ w) (hw : w < 4000) (hk : K (.bl true) S) :
    callX P (n+4) "_law_two" [.tup [.int a, .int b], .tup [.int c, .int e]] S K E := by
  refine call_of (σ := [some (.tup [.int a, .int b]), some (.tup [.int c, .int e]), none, none, none, none]) h.h_law_two rfl rfl ?_
  have hbe : b * e ≠ 0 := Int.mul_ne_zero (by omega) (by omega)
  have m : ∀ {x y : Int}, x.natAbs < 2 ^ w → y.natAbs < 2 ^ w → mulOk x y := fun h1 h2 => mul_ok h1 h2 (by omega)
  have g : ∀ {x y : Int}, x ≠ 0 → x.natAbs < 2 ^ (w + w) → (Int.gcd y x).log2 < 9000 := fun h1 h2 => Nat.lt_of_le_of_lt (gcd_log h1 h2) (by omega)
  have m1 := m ha he2
  have m2 := m hc hb2
  have m3 := m hb2 he2
  have m4 := m ha hc
  have m5 := m hb2 hc
  walk_at "evs*"
  refine w_plus h m1 m2 m3 hbe (g hbe (bd_mul hb2 he2)) ?_
  walk_at "evs*"
  refine tells_fr h hbe (bd_add (bd_mul ha he2) (bd_mul hc hb2)) (bd_le (bd_mul hb2 he2) (by omega)) (by omega) ?_
  walk_at "evs*"
  refine w_less_by h m1 m2 m3 hbe (g hbe (bd_mul hb2 he2)) ?_
  walk_at "evs*"
  refine tells_fr h hbe (bd_sub (bd_mul ha he2) (bd_mul hc hb2)) (bd_le (bd_mul hb2 he2) (by omega)) (by omega) ?_
  walk_at "evs*"
  refine w_times h m4 m3 hbe (g hbe (bd_mul hb2 he2)) ?_
  walk_at "evs*"
  refine tells_fr h hbe (bd_mul ha hc) (bd_mul hb2 he2) (by omega) ?_
  walk_at "e0s*"
  refine st_cut (fun σ' S' => S' = S ∧ σ' = [some (.tup [.int a, .int b]), some (.tup [.int c, .int e]), some (.int a), some (.int b), some (.int c), some (.int e)]) (fun nx' hn => ?_) ?_
  · walk_at "evs*"
    refine if_both (fun hw => ?_) (fun hw => ?_)
    · have hc0 : c ≠ 0 := by simpa using hw
      have hbc : b * c ≠ 0 := Int.mul_ne_zero (by omega) hc0
      walk_at "evs*"
      refine w_over h m1 m5 hbc (g hbc (bd_mul hb2 hc)) ?_
      walk_at "evs*"
      refine tells_fr h hbc (bd_mul ha he2) (bd_mul hb2 hc) (by omega) ?_
      walk_at "evs*"
      exact hn _ _ ⟨rfl, rfl⟩
    · rw [hw]
      walk_at "evs*"
      exact hn _ _ ⟨rfl, rfl⟩
  rintro σ' S' ⟨rfl, rfl⟩
  walk_at "evs*"
  refine w_is_less h m1 m2 ?_
  walk_at "evs*"
  refine w_says h ?_
  rw [beq_self_eq_true]
  exact same (P := fun S => K _ S) hk

def toD (p : Int × Int) : D := .tup [.int p.1, .int p.2]
def sm (ps : List (Int × Int)) : Int × Int := ps.foldl (fun q p => (q.1 * p.2 + p.1 * q.2, q.2 * p.2)) (0, 1)
def pr (ps : List (Int × Int)) : Int × Int := ps.foldl (fun q p => (q.1 * p.1, q.2 * p.2)) (1, 1)
theorem sm_snoc (ps : List (Int × Int)) (p : Int × Int) : sm (ps ++ [p]) = ((sm ps).1 * p.2 + p.1 * (sm ps).2, (sm ps).2 * p.2) := by simp [sm]
theorem pr_snoc (ps : List (Int × Int)) (p : Int × Int) : pr (ps ++ [p]) = ((pr ps).1 * p.1, (pr ps).2 * p.2) := by simp [pr]
def okp (w : Nat) (ps : List (Int × Int)) : Prop := ∀ p ∈ ps, 1 ≤ p.2 ∧ p.1.natAbs < 2 ^ w ∧ p.2.natAbs < 2 ^ w
def Bd (w i : Nat) (q : Int × Int) : Prop := 1 ≤ q.2 ∧ q.1.natAbs < 2 ^ (i * (w + 1) + 1) ∧ q.2.natAbs < 2 ^ (i * (w + 1) + 1)
theorem pos_mul {a b : Int} (h1 : 1 ≤ a) (h2 : 1 ≤ b) : 1 ≤ a * b := by
  have := Int.mul_pos (show 0 < a by omega) (show 0 < b by omega)
  omega
theorem Bd.sm {w i : Nat} {q p : Int × Int} (h : Bd w i q) (k : 1 ≤ p.2 ∧ p.1.natAbs < 2 ^ w ∧ p.2.natAbs < 2 ^ w) : Bd w (i + 1) (q.1 * p.2 + p.1 * q.2, q.2 * p.2) := by
  have e : (i + 1) * (w + 1) + 1 = (i * (w + 1) + 1 + w) + 1 := by rw [Nat.add_mul]; omega
  refine ⟨pos_mul h.1 k.1, ?_, ?_⟩
  · rw [e]
    exact bd_add (bd_mul h.2.1 k.2.2) (by rw [Nat.add_comm]; exact bd_mul k.2.1 h.2.2)
  · rw [e]
    exact bd_le (bd_mul h.2.2 k.2.2) (by omega)
theorem Bd.pr {w i : Nat} {q p : Int × Int} (h : Bd w i q) (k : 1 ≤ p.2 ∧ p.1.natAbs < 2 ^ w ∧ p.2.natAbs < 2 ^ w) : Bd w (i + 1) (q.1 * p.1, q.2 * p.2) := by
  have e : (i + 1) * (w + 1) + 1 = (i * (w + 1) + 1 + w) + 1 := by rw [Nat.add_mul]; omega
  refine ⟨pos_mul h.1 k.1, ?_, ?_⟩
  · rw [e]
    exact bd_le (bd_mul h.2.1 k.2.1) (by omega)
  · rw [e]
    exact bd_le (bd_mul h.2.2 k.2.2) (by omega)
theorem take_snoc {α : Type} {l : List α} {i : Nat} (h : i < l.length) : l.take (i + 1) = l.take i ++ [l[i]] := by
  rw [List.take_succ, List.getElem?_eq_getElem h]
  rfl
theorem w_sum_of (h : Has P) {n w : Nat} {ps : List (Int × Int)} (ho : okp w ps) (hw : (ps.length + 1) * (w + 1) + w < 8000) (hk : Bd w ps.length (sm ps) → K (fr (sm ps).1 (sm ps).2) S) : callX P (n+4) "sum_of" [.tup (ps.map toD)] S K E := by
  refine call_of (σ := [some (.tup (ps.map toD)), none, none]) h.h_sum_of rfl rfl ?_
  walk_at "evs*"
  refine for_inv (fun i σ S' => S' = S ∧ ∃ (x y : Int) (w2 : Option D), σ = [some (.tup (ps.map toD)), some (.tup [.int x, .int y]), w2] ∧ fr (sm (ps.take i)).1 (sm (ps.take i)).2 = .tup [.int x, .int y] ∧ Bd w i (sm (ps.take i)))
    ⟨rfl, 0, 1, none, rfl, by rw [List.take_zero]; rfl, by rw [List.take_zero]; exact ⟨by decide, Nat.two_pow_pos _, Nat.one_lt_two_pow (by omega)⟩⟩ (fun _ _ _ _ _ => trivial) ?_ ?_
  · rintro i σ S' K' hi ⟨rfl, x, y, w2, rfl, hf, hb⟩ hK
    rw [List.length_map] at hi
    rw [List.getElem_map]
    have hp := ho _ (List.getElem_mem hi)
    have es := sm_snoc (ps.take i) ps[i]
    rw [← take_snoc hi] at es
    have hb' := hb.sm hp
    generalize sm (List.take i ps) = q at *
    generalize ps[i] = p at *
    have hN : i * (w + 1) + w + 1 ≤ (ps.length + 1) * (w + 1) := by
      have := Nat.mul_le_mul_right (w + 1) (show i + 1 ≤ ps.length + 1 by omega)
      rw [Nat.add_mul] at this
      omega
    obtain ⟨x', y', f1, f2, f3, f4, f5, f6⟩ := fr_form (a := q.1) (b := q.2) (by have := hb.1; omega)
    rw [hf] at f1
    cases f1
    have bx := Nat.lt_of_le_of_lt f5 hb.2.1
    have by' := Nat.lt_of_le_of_lt f6 hb.2.2
    have hne : y * p.2 ≠ 0 := by have := pos_mul f2 hp.1; omega
    have key : fr (x * p.2 + p.1 * y) (y * p.2) = fr (q.1 * p.2 + p.1 * q.2) (q.2 * p.2) := fr_cross hne (by have := hb'.1; show q.2 * p.2 ≠ 0; have e : (q.1 * p.2 + p.1 * q.2, q.2 * p.2).2 = q.2 * p.2 := rfl; omega) (by grind)
    unfold toD
    walk_at "evs*"
    refine w_plus h (mul_ok bx hp.2.2 (by omega)) (mul_ok hp.2.1 by' (by omega)) (mul_ok by' hp.2.2 (by omega)) hne (Nat.lt_of_le_of_lt (gcd_log hne (bd_mul by' hp.2.2)) (by omega)) ?_
    rw [key]
    obtain ⟨u, v, g1, _⟩ := fr_form (a := q.1 * p.2 + p.1 * q.2) (b := q.2 * p.2) (by have := hb'.1; have e : (q.1 * p.2 + p.1 * q.2, q.2 * p.2).2 = q.2 * p.2 := rfl; omega)
    rw [g1]
    walk_at "evs*"
    refine hK _ _ ⟨rfl, u, v, some (.tup [.int p.1, .int p.2]), rfl, ?_, ?_⟩
    · rw [es, g1]
    · rw [es]
      exact hb'
  · rintro σ S' ⟨rfl, x, y, w2, rfl, hf, hb⟩
    rw [List.length_map, List.take_length] at hf hb
    walk_at "evs*"
    have := hk hb
    rw [hf] at this
    exact same (P := fun S => K _ S) this
theorem w_product_of (h : Has P) {n w : Nat} {ps : List (Int × Int)} (ho : okp w ps) (hw : (ps.length + 1) * (w + 1) + w < 8000) (hk : Bd w ps.length (pr ps) → K (fr (pr ps).1 (pr ps).2) S) : callX P (n+4) "product_of" [.tup (ps.map toD)] S K E := by
  refine call_of (σ := [some (.tup (ps.map toD)), none, none]) h.h_product_of rfl rfl ?_
  walk_at "evs*"
  refine for_inv (fun i σ S' => S' = S ∧ ∃ (x y : Int) (w2 : Option D), σ = [some (.tup (ps.map toD)), some (.tup [.int x, .int y]), w2] ∧ fr (pr (ps.take i)).1 (pr (ps.take i)).2 = .tup [.int x, .int y] ∧ Bd w i (pr (ps.take i)))
    ⟨rfl, 1, 1, none, rfl, by rw [List.take_zero]; rfl, by rw [List.take_zero]; exact ⟨by decide, Nat.one_lt_two_pow (by omega), Nat.one_lt_two_pow (by omega)⟩⟩ (fun _ _ _ _ _ => trivial) ?_ ?_
  · rintro i σ S' K' hi ⟨rfl, x, y, w2, rfl, hf, hb⟩ hK
    rw [List.length_map] at hi
    rw [List.getElem_map]
    have hp := ho _ (List.getElem_mem hi)
    have es := pr_snoc (ps.take i) ps[i]
    rw [← take_snoc hi] at es
    have hb' := hb.pr hp
    generalize pr (List.take i ps) = q at *
    generalize ps[i] = p at *
    have hN : i * (w + 1) + w + 1 ≤ (ps.length + 1) * (w + 1) := by
      have := Nat.mul_le_mul_right (w + 1) (show i + 1 ≤ ps.length + 1 by omega)
      rw [Nat.add_mul] at this
      omega
    obtain ⟨x', y', f1, f2, f3, f4, f5, f6⟩ := fr_form (a := q.1) (b := q.2) (by have := hb.1; omega)
    rw [hf] at f1
    cases f1
    have bx := Nat.lt_of_le_of_lt f5 hb.2.1
    have by' := Nat.lt_of_le_of_lt f6 hb.2.2
    have hne : y * p.2 ≠ 0 := by have := pos_mul f2 hp.1; omega
    have key : fr (x * p.1) (y * p.2) = fr (q.1 * p.1) (q.2 * p.2) := fr_cross hne (by have := hb'.1; show q.2 * p.2 ≠ 0; have e : (q.1 * p.1, q.2 * p.2).2 = q.2 * p.2 := rfl; omega) (by grind)
    unfold toD
    walk_at "evs*"
    refine w_times h (mul_ok bx hp.2.1 (by omega)) (mul_ok by' hp.2.2 (by omega)) hne (Nat.lt_of_le_of_lt (gcd_log hne (bd_mul by' hp.2.2)) (by omega)) ?_
    rw [key]
    obtain ⟨u, v, g1, _⟩ := fr_form (a := q.1 * p.1) (b := q.2 * p.2) (by have := hb'.1; have e : (q.1 * p.1, q.2 * p.2).2 = q.2 * p.2 := rfl; omega)
    rw [g1]
    walk_at "evs*"
    refine hK _ _ ⟨rfl, u, v, some (.tup [.int p.1, .int p.2]), rfl, ?_, ?_⟩
    · rw [es, g1]
    · rw [es]
      exact hb'
  · rintro σ S' ⟨rfl, x, y, w2, rfl, hf, hb⟩
    rw [List.length_map, List.take_length] at hf hb
    walk_at "evs*"
    have := hk hb
    rw [hf] at this
    exact same (P := fun S => K _ S) this
theorem w_together (h : Has P) {n w r : Nat} {ps : List (Int × Int)} (hr : S r = some (.lst (ps.map toD))) (ho : okp w ps) (hw : (ps.length + 1) * (w + 1) + w < 8000) (hk : K (.bl true) S) : callX P (n+5) "_law_together" [.ref r] S K E := by
  refine call_of (σ := [some (.ref r), none, none, none, none, none, none]) h.h_law_together rfl rfl ?_
  walk_at "evs*"
  refine for_inv (fun i σ S' => S' = S ∧ ∃ (a b : Option D), σ = [some (.ref r), some (.int (sm (ps.take i)).1), some (.int (sm (ps.take i)).2), some (.int (pr (ps.take i)).1), some (.int (pr (ps.take i)).2), a, b] ∧ Bd w i (sm (ps.take i)) ∧ Bd w i (pr (ps.take i)))
    ⟨rfl, none, none, ?_, by rw [List.take_zero]; exact ⟨by decide, Nat.two_pow_pos _, Nat.one_lt_two_pow (by omega)⟩, by rw [List.take_zero]; exact ⟨by decide, Nat.one_lt_two_pow (by omega), Nat.one_lt_two_pow (by omega)⟩⟩ (fun _ _ _ _ ⟨e, _⟩ => by rw [e]; exact hr) ?_ ?_
  · rw [List.take_zero]
    rfl
  · rintro i σ S' K' hi ⟨rfl, a, b, rfl, hb, hc⟩ hK
    rw [List.length_map] at hi
    rw [List.getElem_map]
    have hp := ho _ (List.getElem_mem hi)
    have es := sm_snoc (ps.take i) ps[i]
    have ep := pr_snoc (ps.take i) ps[i]
    rw [← take_snoc hi] at es ep
    have hb' := hb.sm hp
    have hc' := hc.pr hp
    have hN : i * (w + 1) + w + 1 ≤ (ps.length + 1) * (w + 1) := by
      have := Nat.mul_le_mul_right (w + 1) (show i + 1 ≤ ps.length + 1 by omega)
      rw [Nat.add_mul] at this
      omega
    have m1 := mul_ok hb.2.1 hp.2.2 (by omega)
    have m2 := mul_ok hp.2.1 hb.2.2 (by omega)
    have m3 := mul_ok hb.2.2 hp.2.2 (by omega)
    have m4 := mul_ok hc.2.1 hp.2.1 (by omega)
    have m5 := mul_ok hc.2.2 hp.2.2 (by omega)
    unfold toD
    walk_at "evs*"
    refine hK _ _ ⟨rfl, some (.int ps[i].1), some (.int ps[i].2), ?_, ?_, ?_⟩
    · rw [es, ep]
      rfl
    · rw [es]; exact hb'
    · rw [ep]; exact hc'
  · rintro σ S' ⟨rfl, a, b, rfl, hb, hc⟩
    rw [List.length_map, List.take_length] at hb hc
    rw [List.length_map, List.take_length]
    have hN : ps.length * (w + 1) + 1 < 8000 := by
      have := Nat.add_mul ps.length 1 (w + 1)
      omega
    walk_at "evs*"
    refine w_sum_of h ho hw fun _ => ?_
    walk_at "evs*"
    refine tells_fr h (by have := hb.1; omega) hb.2.1 hb.2.2 (by omega) ?_
    walk_at "evs*"
    refine w_product_of h ho hw fun _ => ?_
    walk_at "evs*"
    exact tells_fr h (by have := hc.1; omega) hc.2.1 hc.2.2 (by omega) (same (P := fun S => K _ S) hk)

theorem fresh_ne {S : Sto} {p q : Nat} {o : AO} (h : put S p o q = none) : p ≠ q ∧ S q = none := by
  by_cases e : q = p
  · subst e
    rw [put_eq] at h
    cases h
  · rw [put_of e] at h
    exact ⟨fun z => e z.symm, h⟩
def gd : D → Bool
  | .tup l => l.all itm
  | .fz _ => false
  | .ref _ => false
  | _ => true
theorem gd_thg {S : Sto} {d : D} (h : gd d = true) : thg S d := by
  cases d <;> first | trivial | (cases h; done) | exact h
theorem w_odd (h : Has P) {n : Nat} {a b k : Int} (m1 : mulOk a k) (m2 : mulOk b k) (la : a.natAbs.log2 < 1920) (lb : b.natAbs.log2 < 1920) (hk : ∀ p S' l, Sub S S' → S' p = some (.lst l) → l.length < 100 → (∀ x ∈ l, thg S' x) → K (.ref p) S') : callX P (n+1) "_law_odd" [.int a, .int b, .int k] S K E := by
  refine call_of (σ := [some (.int a), some (.int b), some (.int k), none]) h.h_law_odd rfl rfl ?_
  walk_at "evs*"
  intro p hp
  walk_at "evs*"
  intro q1 hq1
  obtain ⟨n1, hq1'⟩ := fresh_ne hq1
  walk_at "evs*"
  refine mt_extendL (l := _) (r := _) (by walk_at "st") put_eq ?_ (by simp [line])
  obtain ⟨L1, e1, g1, z1⟩ : ∃ L, ([D.tup [.int a, .int b], .tup [.int b, .int a], .tup [.int (-a), .int b], .tup [.int (-a), .int (-b)], .tup [.int a, .int (-b)], .tup [.int a, .int 0], .tup [.int 0, .int a], .tup [.int 0, .int b], .tup [.int 0, .int 0], .tup [.int 0, .int 1], .tup [.int 1, .int 1], .tup [.int 1, .int k]] ++
    [D.tup [.int (a * k), .int (b * k)], .tup [.int (k - 1), .int k], .tup [.int (k + 1), .int k], .tup [.int k, .int k], .tup [.int k, .int 1], .tup [.int 1, .int (-k)], .tup [.int (-1), .int k], .tup [.int a, .int b, .int 1], .tup [.int a], .tup []]) = L ∧ L.all gd = true ∧ L.length = 22 := ⟨_, rfl, rfl, rfl⟩
  rw [e1]
  clear e1
  generalize [D.tup [.int a, .int b], .tup [.int b, .int a], .tup [.int (-a), .int b], .tup [.int (-a), .int (-b)], .tup [.int a, .int (-b)], .tup [.int a, .int 0], .tup [.int 0, .int a], .tup [.int 0, .int b], .tup [.int 0, .int 0], .tup [.int 0, .int 1], .tup [.int 1, .int 1], .tup [.int 1, .int k]] = A at *
  generalize [D.tup [.int (a * k), .int (b * k)], .tup [.int (k - 1), .int k], .tup [.int (k + 1), .int k], .tup [.int k, .int k], .tup [.int k, .int 1], .tup [.int 1, .int (-k)], .tup [.int (-1), .int k], .tup [.int a, .int b, .int 1], .tup [.int a], .tup []] = B at *
  walk_at "evs*"
  refine bl_str ?_ la
  walk_at "evs*"
  refine bl_str ?_ lb
  walk_at "evs*"
  intro q2 hq2
  obtain ⟨n2, hq2a⟩ := fresh_ne hq2
  obtain ⟨n21, hq2b⟩ := fresh_ne hq2a
  obtain ⟨_, hq2c⟩ := fresh_ne hq2b
  walk_at "evs*"
  refine mt_extendL (l := L1) (r := _) (by walk_at "st") put_eq ?_ (by rw [z1]; simp [line])
  generalize hC : [D.tup [.bl true, .int b], .tup [.int a, .bl true], .tup [.bl false, .int 1], .tup [.bl true, .int k], .tup [.str (toString a : String), .int b], .tup [.int a, .str (toString b : String)], .tup [.non, .int b], .tup [.int a, .non]] = CC
  have g2 : CC.all gd = true := by subst hC; rfl
  have z2 : CC.length = 8 := by subst hC; rfl
  clear hC
  walk_at "evs*"
  intro r1 hr1
  obtain ⟨u1, hr1a⟩ := fresh_ne hr1
  obtain ⟨u2, hr1b⟩ := fresh_ne hr1a
  obtain ⟨_, hr1c⟩ := fresh_ne hr1b
  obtain ⟨u3, hr1d⟩ := fresh_ne hr1c
  obtain ⟨_, hr1e⟩ := fresh_ne hr1d
  walk_at "evs*"
  intro r2 hr2
  obtain ⟨v0, hr2⟩ := fresh_ne hr2
  obtain ⟨v1, hr2a⟩ := fresh_ne hr2
  obtain ⟨v2, hr2b⟩ := fresh_ne hr2a
  obtain ⟨_, hr2c⟩ := fresh_ne hr2b
  obtain ⟨v3, hr2d⟩ := fresh_ne hr2c
  obtain ⟨_, hr2e⟩ := fresh_ne hr2d
  walk_at "evs*"
  intro q3 hq3
  obtain ⟨w0, hq3⟩ := fresh_ne hq3
  obtain ⟨w00, hq3⟩ := fresh_ne hq3
  obtain ⟨w1, hq3a⟩ := fresh_ne hq3
  obtain ⟨w2, hq3b⟩ := fresh_ne hq3a
  obtain ⟨_, hq3c⟩ := fresh_ne hq3b
  obtain ⟨w3, hq3d⟩ := fresh_ne hq3c
  obtain ⟨_, hq3e⟩ := fresh_ne hq3d
  walk_at "evs*"
  refine mt_extendL (l := L1 ++ CC) (r := _) (by walk_at "st") put_eq ?_ (by rw [List.length_append, z1, z2]; simp [line])
  walk_at "evs*"
  refine same (hk _ _ _ ?_ put_eq ?_ ?_)
  · intro x u hx
    have hpx : x ≠ p := by rintro rfl; rw [hp] at hx; cases hx
    have h1x : x ≠ q1 := by rintro rfl; rw [hq1'] at hx; cases hx
    have h2x : x ≠ q2 := by rintro rfl; rw [hq2c] at hx; cases hx
    have h3x : x ≠ q3 := by rintro rfl; rw [hq3e] at hx; cases hx
    have h4x : x ≠ r1 := by rintro rfl; rw [hr1e] at hx; cases hx
    have h5x : x ≠ r2 := by rintro rfl; rw [hr2e] at hx; cases hx
    rw [put_of hpx, put_of h3x, put_of h5x, put_of h4x, put_of hpx, put_of h2x, put_of hpx, put_of h1x, put_of hpx]
    exact hx
  · rw [List.length_append, List.length_append, z1, z2]
    simp
  · intro x hx
    rw [List.mem_append, List.mem_append] at hx
    rcases hx with (hx | hx) | hx
    · exact gd_thg (List.all_eq_true.1 g1 x hx)
    · exact gd_thg (List.all_eq_true.1 g2 x hx)
    · simp only [List.mem_cons, List.not_mem_nil, or_false] at hx
      rcases hx with rfl | rfl | rfl | rfl | rfl | rfl | rfl | rfl | rfl <;> first | exact gd_thg rfl | skip
      · exact ⟨[.int a, .int b], by walk_at "st"⟩
      · exact ⟨[.int 1, .int k], by walk_at "st"⟩

theorem w_alone (h : Has P) {n d m : Nat} {a b : Int} {w : Nat} (hD : Dr S d m) (hm : m < 2 ^ 60) (hb : 1 ≤ b) (ha : a.natAbs < 2 ^ w) (hb2 : b.natAbs < 2 ^ w) (hw : w < 1900)
    (hk : ∀ S', Gr d S S' → Dr S' d (m + 1) → K (.bl true) S') : callX P (n+5) "_law_alone" [.ref d, .tup [.int a, .int b]] S K E := by
  refine call_of (σ := [some (.ref d), some (.tup [.int a, .int b]), none, none, none, none]) h.h_law_alone rfl rfl ?_
  walk_at "evs*"
  refine w_rest_of h (by omega) (Nat.lt_of_le_of_lt (gcd_log (by omega) hb2) (by omega)) ?_
  walk_at "evs*"
  refine tells_fr h (by omega) (bd_sub hb2 ha) (bd_le hb2 (by omega)) (by omega) ?_
  walk_at "evs*"
  refine g_draw h hD hm (by decide) (by decide) fun r S1 r0 r1 g1 D1 => ?_
  walk_at "evs*"
  refine w_odd h (mul_ok (b := 3) ha (by omega) (by omega)) (mul_ok (b := 3) hb2 (by omega) (by omega)) (Nat.lt_of_le_of_lt (log_lt ha) (by omega)) (Nat.lt_of_le_of_lt (log_lt hb2) (by omega)) fun q S2 l s2 hq hl hx => ?_
  walk_at "evs*"
  refine for_inv (fun i σ S' => S' = S2 ∧ ∃ (u v : Option D), σ = [some (.ref d), some (.tup [.int a, .int b]), some (.int a), some (.int b), u, v]) ⟨rfl, none, none, rfl⟩ (fun _ _ _ _ ⟨e, _⟩ => by rw [e]; exact hq) ?_ ?_
  · rintro i σ S' K' hi ⟨rfl, u, v, rfl⟩ hK
    have ht := hx _ (List.getElem_mem hi)
    generalize l[i] = x at *
    walk_at "evs*"
    refine w_lis_frac h ht ?_
    walk_at "evs*"
    refine w_is_frac h ht ?_
    walk_at "evs*"
    refine w_says h ?_
    rw [beq_self_eq_true]
    walk_at "evs*"
    refine w_is_chance h ht ?_
    walk_at "evs*"
    refine if_both (fun hc => ?_) (fun hc => ?_)
    · obtain ⟨e, f, rfl, _, _⟩ := isFr_form hc
      rw [hc, Bool.true_and]
      walk_at "evs*"
      refine if_dec (fun h1 => ?_) (fun h1 => ?_)
      · walk_at "evs*"
        refine w_says h ?_
        rw [show (isCh (.tup [.int e, .int f]) == decide (e < f)) = true by simp [isCh, h1]]
        walk_at "evs*"
        exact hK _ _ ⟨rfl, some (.tup [.int e, .int f]), some (.bl true), by rw [← hc]; rfl⟩
      · walk_at "evs*"
        refine w_says h ?_
        rw [show (isCh (.tup [.int e, .int f]) == false) = true by simp [isCh, h1]]
        walk_at "evs*"
        exact hK _ _ ⟨rfl, some (.tup [.int e, .int f]), some (.bl true), by rw [← hc]; rfl⟩
    · rw [hc, Bool.false_and]
      walk_at "evs*"
      refine w_says h ?_
      rw [beq_self_eq_true]
      walk_at "evs*"
      exact hK _ _ ⟨rfl, some x, some (.bl false), rfl⟩
  · rintro σ S' ⟨rfl, u, v, rfl⟩
    walk_at "evs*"
    exact same (hk _ (g1.trans (Gr.sub s2)) (D1.sub s2))

def nz (w : Nat) (ps : List (Int × Int)) : Prop := ∀ p ∈ ps, p.2 ≠ 0 ∧ p.1.natAbs < 2 ^ w ∧ p.2.natAbs < 2 ^ w
theorem fr_pair {a b : Int} {w : Nat} (hb : b ≠ 0) (h1 : a.natAbs < 2 ^ w) (h2 : b.natAbs < 2 ^ w) : ∃ q : Int × Int, fr a b = toD q ∧ 1 ≤ q.2 ∧ q.1.natAbs < 2 ^ w ∧ q.2.natAbs < 2 ^ w := by
  obtain ⟨x, y, e, f1, f2, f3, f4, f5⟩ := fr_form (a := a) hb
  exact ⟨(x, y), e, f1, Nat.lt_of_le_of_lt f4 h1, Nat.lt_of_le_of_lt f5 h2⟩
theorem all_snoc {α : Type} {Q : α → Prop} {l : List α} {x : α} (h : ∀ y ∈ l, Q y) (hx : Q x) : ∀ y ∈ l ++ [x], Q y := fun y hy => by
  rw [List.mem_append, List.mem_singleton] at hy
  rcases hy with hy | rfl
  · exact h y hy
  · exact hx
theorem Dr.ne {S : Sto} {d b p : Nat} (h : Dr S d b) (hp : S p = none) : p ≠ d := by
  rintro rfl
  obtain ⟨o, e⟩ := h.has
  rw [e] at hp
  cases hp
theorem law_ok (h : Has P) : LawX P 12 63 "law" := by
  intro ns hn hz
  refine call_of (σ := [some (.fz (ns.map .int)), none, none, none, none, none, none, none, none, none]) h.h_law rfl rfl ?_
  walk_at "evs*"
  refine w_begin h hz hn fun d S0 s0 d0 D0 => ?_
  walk_at "evs*"
  refine g_draw h D0 (by decide) (by decide) (by decide) fun r S1 r0 r1 g1 D1 => ?_
  walk_at "evs*"
  refine ⟨⟨by omega, by omega⟩, ?_⟩
  generalize Str.ofString "law" = nm at *
  refine lc_inv (fun i a S' => Gr d S1 S' ∧ Dr S' d (1 + 50 * i) ∧ ∃ ps : List (Int × Int), a = ps.map toD ∧ ps.length = i ∧ nz 170 ps) ⟨Gr.refl, D1, [], rfl, rfl, fun _ h => nomatch h⟩ (fun _ _ _ _ _ => trivial) ?_ ?_ ?_
  · rintro i a S' Kt hi ⟨g2, D2, ps, rfl, hl, hp⟩ k1 k2
    rw [getElem_rng hi]
    rw [List.length_map, List.length_range] at hi
    walk_at "evs*"
    refine w_parts h D2 (by omega) fun x y S'' hy hx2 hy2 g3 D3 => ?_
    refine k1 _ _ ⟨g2.trans g3, D3.mono (by omega), ps ++ [(x, y)], by simp [toD], by simp [hl], all_snoc hp ⟨hy, hx2, hy2⟩⟩ ?_
    rw [List.length_map, hl]
    show i < 16777216
    omega
  · rintro i a S' ⟨_, _, ps, rfl, hl, _⟩ hi
    rw [List.length_map, List.length_range] at hi
    rw [List.length_map, hl]
    show i < 16777216
    omega
  rintro a S2 ⟨g2, D2, ps, rfl, hl, hp⟩
  rw [List.length_map, List.length_range] at D2 hl
  intro p hpn
  have hpd := D2.ne hpn
  walk_at "evs*"
  intro q0 hq0
  have D3 := D2.put (o := .lst (ps.map toD)) hpn
  have hq0d := D3.ne hq0
  have D4 := D3.put (o := .lst []) hq0
  obtain ⟨hpq, _⟩ := fresh_ne hq0
  have hP : put (put S2 p (.lst (ps.map toD))) q0 (.lst []) p = some (.lst (ps.map toD)) := by walk_at "st"
  have hQ : put (put S2 p (.lst (ps.map toD))) q0 (.lst []) q0 = some (.lst []) := put_eq
  generalize put (put S2 p (.lst (ps.map toD))) q0 (.lst []) = S3 at *
  clear hpn hq0
  walk_at "e0s*"
  refine st_cut (fun σ' S' => ∃ (q : Nat) (rs : List (Int × Int)), σ' = [some (.fz (ns.map .int)), some (.ref d), some (.ref p), some (.ref q), none, none, none, none, none, none] ∧ S' q = some (.lst (rs.map toD)) ∧ q ≠ d ∧ okp 5 rs ∧ rs.length ≤ 64 ∧ Gr d S3 S' ∧ Dr S' d 1000) (fun nx' hn => ?_) ?_
  · walk_at "evs*"
    refine g_rare h D4 (by omega) (by decide) (by decide) fun c S4 g4 D5 => ?_
    walk_at "evs*"
    refine if_both (fun hw => ?_) (fun hw => ?_)
    · walk_at "evs*"
      refine g_draw h D5 (by omega) (by decide) (by decide) fun r' S5 r0' r1' g5 D6 => ?_
      walk_at "evs*"
      refine ⟨⟨by omega, by omega⟩, ?_⟩
      refine lc_inv (fun i a S' => Gr d S5 S' ∧ Dr S' d (400 + 2 * i) ∧ ∃ rs : List (Int × Int), a = rs.map toD ∧ rs.length = i ∧ okp 5 rs) ⟨Gr.refl, D6.mono (by omega), [], rfl, rfl, fun _ h => nomatch h⟩ (fun _ _ _ _ _ => trivial) ?_ ?_ ?_
      · rintro i a S' Kt hi ⟨g6, D7, rs, rfl, hl', hp'⟩ k1 k2
        rw [getElem_rng hi]
        rw [List.length_map, List.length_range] at hi
        walk_at "evs*"
        refine g_draw h D7 (by omega) (by decide) (by decide) fun x S6 x0 x1 g7 D8 => ?_
        walk_at "evs*"
        refine g_draw h D8 (by omega) (by decide) (by decide) fun y S7 y0 y1 g8 D9 => ?_
        walk_at "evs*"
        have hy : (1 + y).natAbs < 2 ^ 5 := by omega
        have hx : (x - 12).natAbs < 2 ^ 5 := by omega
        refine w_lfrac h (by omega) (Nat.lt_of_le_of_lt (gcd_log (by omega) hy) (by decide)) ?_
        obtain ⟨f, ef, f1, f2, f3⟩ := fr_pair (a := x - 12) (b := 1 + y) (by omega) hx hy
        rw [ef]
        refine k1 _ _ ⟨(g6.trans g7).trans g8, D9.mono (by omega), rs ++ [f], by simp, by simp [hl'], all_snoc hp' ⟨f1, f2, f3⟩⟩ ?_
        rw [List.length_map, hl']
        show i < 16777216
        omega
      · rintro i a S' ⟨_, _, rs, rfl, hl', _⟩ hi
        rw [List.length_map, List.length_range] at hi
        rw [List.length_map, hl']
        show i < 16777216
        omega
      rintro a S6 ⟨g6, D7, rs, rfl, hl', hp'⟩
      rw [List.length_map, List.length_range] at D7 hl'
      intro q hq
      walk_at "evs*"
      exact hn _ _ ⟨q, rs, rfl, put_eq, D7.ne hq, hp', by omega, ((g4.trans g5).trans g6).trans (Gr.new hq), (D7.put hq).mono (by omega)⟩
    · walk_at "evs*"
      exact hn _ _ ⟨q0, [], rfl, (g4 _ _ hq0d hQ), hq0d, (fun _ h => nomatch h), by decide, g4, D5.mono (by omega)⟩
  rintro σ' S4 ⟨q, rs, rfl, hq, hqd, ho, hrl, g4, D5⟩
  have hP4 := g4 _ _ hpd hP
  clear hP hQ g4 D4 D3 g2 D2
  walk_at "evs*"
  have e9 : ∀ x y : Int, x ≠ 0 → x.natAbs < 2 ^ 170 → (Int.gcd y x).log2 < 9000 := fun x y h1 h2 => Nat.lt_of_le_of_lt (gcd_log h1 h2) (by decide)
  refine for_inv (fun i σ S' => S' = S4 ∧ ∃ (u v : Option D), σ = [some (.fz (ns.map .int)), some (.ref d), some (.ref p), some (.ref q), u, v, none, none, none, none]) ⟨rfl, none, none, rfl⟩ (fun _ _ _ _ ⟨e, _⟩ => by rw [e]; exact hP4) ?_ ?_
  · rintro i σ S' K' hi ⟨rfl, u, v, rfl⟩ hK
    rw [List.length_map] at hi
    rw [List.getElem_map]
    obtain ⟨hx0, hx1, hx2⟩ := hp _ (List.getElem_mem hi)
    generalize ps[i] = x at *
    unfold toD
    walk_at "evs*"
    refine w_frac h hx0 (e9 _ _ hx0 hx2) ?_
    walk_at "evs*"
    refine tells_fr h hx0 hx1 hx2 (by decide) ?_
    walk_at "evs*"
    exact hK _ _ ⟨rfl, some (.int x.1), some (.int x.2), rfl⟩
  rintro σ' S' ⟨rfl, u, v, rfl⟩
  walk_at "evs*"
  refine lc_inv (fun i a S'' => S'' = S' ∧ ∃ ms : List (Int × Int), a = ms.map toD ∧ ms.length = i ∧ okp 170 ms) ⟨rfl, [], rfl, rfl, fun _ h => nomatch h⟩ (fun _ _ _ _ ⟨e, _⟩ => by rw [e]; exact hP4) ?_ ?_ ?_
  · rintro i a S'' Kt hi ⟨rfl, ms, rfl, hl', hm⟩ k1 k2
    rw [List.length_map] at hi
    rw [List.getElem_map]
    obtain ⟨hx0, hx1, hx2⟩ := hp _ (List.getElem_mem hi)
    generalize ps[i] = x at *
    unfold toD
    walk_at "evs*"
    refine w_lfrac h hx0 (e9 _ _ hx0 hx2) ?_
    obtain ⟨f, ef, f1, f2, f3⟩ := fr_pair (a := x.1) (b := x.2) hx0 hx1 hx2
    rw [ef]
    refine k1 _ _ ⟨rfl, ms ++ [f], by simp [toD], by simp [hl'], all_snoc hm ⟨f1, f2, f3⟩⟩ ?_
    rw [List.length_map, hl']
    show i < 16777216
    omega
  · rintro i a S'' ⟨_, ms, rfl, hl', _⟩ hi
    rw [List.length_map] at hi
    rw [List.length_map, hl']
    show i < 16777216
    omega
  rintro a S'' ⟨rfl, ms, rfl, hml, hm⟩
  rw [List.length_map] at hml
  intro m hmn
  have hmd := D5.ne hmn
  have D6 := D5.put (o := .lst (ms.map toD)) hmn
  have hM : put S'' m (.lst (ms.map toD)) m = some (.lst (ms.map toD)) := put_eq
  have hP5 := sub_new (o := .lst (ms.map toD)) hmn _ _ hP4
  have hQ5 := sub_new (o := .lst (ms.map toD)) hmn _ _ hq
  generalize put S'' m (.lst (ms.map toD)) = S5 at *
  clear hmn
  walk_at "evs*"
  refine for_inv (fun i σ S' => Gr d S5 S' ∧ Dr S' d (1000 + i) ∧ ∃ (w7 w8 : Option D), σ = [some (.fz (ns.map .int)), some (.ref d), some (.ref p), some (.ref q), u, v, some (.ref m), w7, w8, none]) ⟨Gr.refl, D6, none, none, rfl⟩ (fun _ _ _ _ ⟨e, _⟩ => e _ _ hmd hM) ?_ ?_
  · rintro i σ S' K' hi ⟨g6, D7, w7, w8, rfl⟩ hK
    rw [List.length_map] at hi
    rw [List.getElem_map]
    have hx := hm _ (List.getElem_mem hi)
    generalize ms[i] = x at *
    have et : toD x = .tup [.int x.1, .int x.2] := rfl
    rw [et]
    walk_at "evs*"
    refine w_alone h D7 (by omega) hx.1 hx.2.1 hx.2.2 (by decide) fun S6 g7 D8 => ?_
    have hM6 := (g6.trans g7) _ _ hmd hM
    walk_at "evs*"
    refine for_inv (fun j σ T => T = S6 ∧ ∃ (w8 : Option D), σ = [some (.fz (ns.map .int)), some (.ref d), some (.ref p), some (.ref q), u, v, some (.ref m), some (toD x), w8, none]) ⟨rfl, w8, rfl⟩ (fun _ _ _ _ ⟨e, _⟩ => by rw [e]; exact hM6) ?_ ?_
    · rintro j σ T K2 hj ⟨rfl, w8, rfl⟩ hK2
      rw [List.length_map] at hj
      rw [List.getElem_map]
      have hy := hm _ (List.getElem_mem hj)
      generalize ms[j] = y at *
      have et2 : toD y = .tup [.int y.1, .int y.2] := rfl
      rw [et2]
      walk_at "evs*"
      refine w_two h hx.1 hy.1 hx.2.1 hx.2.2 hy.2.1 hy.2.2 (by decide) ?_
      walk_at "evs*"
      exact hK2 _ _ ⟨rfl, some (toD y), rfl⟩
    · rintro σ T ⟨rfl, w8, rfl⟩
      walk_at "evs*"
      exact hK _ _ ⟨g6.trans g7, D8, some (toD x), w8, rfl⟩
  rintro σ' S6 ⟨g6, D7, w7, w8, rfl⟩
  have hM6 := g6 _ _ hmd hM
  have hP6 := g6 _ _ hpd hP5
  have hQ6 := g6 _ _ hqd hQ5
  walk_at "evs*"
  refine for_inv (fun i σ S' => S' = S6 ∧ ∃ (u v : Option D), σ = [some (.fz (ns.map .int)), some (.ref d), some (.ref p), some (.ref q), u, v, some (.ref m), w7, w8, none]) ⟨rfl, u, v, rfl⟩ (fun _ _ _ _ ⟨e, _⟩ => by rw [e]; exact hP6) ?_ ?_
  · rintro i σ S' K' hi ⟨rfl, u, v, rfl⟩ hK
    rw [List.length_map] at hi
    rw [List.getElem_map]
    obtain ⟨hx0, hx1, hx2⟩ := hp _ (List.getElem_mem hi)
    generalize ps[i] = x at *
    unfold toD
    walk_at "evs*"
    refine w_frac h hx0 (e9 _ _ hx0 hx2) ?_
    walk_at "evs*"
    refine tells_fr h hx0 hx1 hx2 (by decide) ?_
    walk_at "evs*"
    exact hK _ _ ⟨rfl, some (.int x.1), some (.int x.2), rfl⟩
  rintro σ' S' ⟨rfl, u, v, rfl⟩
  walk_at "evs*"
  refine w_together h hM6 hm (by rw [hml, hl]; have := r1; omega) ?_
  walk_at "evs*"
  refine w_together h hQ6 ho (by omega) ?_
  walk_at "evs*"
  intro t ht
  have e1 : cut (ms.map toD) none (some 1) = (ms.take 1).map toD := by
    unfold cut six
    rw [List.drop_zero, List.map_take]
    rcases ms with _ | ⟨m, ms⟩ <;> simp
  rw [e1]
  walk_at "evs*"
  refine w_together h (ps := ms.take 1) (w := 170) put_eq (fun p hp => hm p (List.mem_of_mem_take hp)) (by rw [List.length_take]; omega) ?_
  walk_at "evs*"
  intro t2 ht2
  walk_at "evs*"
  exact w_together h (ps := []) (w := 170) put_eq (fun _ h => nomatch h) (by decide) (same rfl)

end
section
open PySem PySem.Spec PyProof.Rows L2 Ev
def tp (i : Nat) : Stmt := PySem.Challenge.pw_rowtruce_k44_fractions.main.body.getD i (.Pass ⟨0, 0, 0, 0⟩)
def en (i : Nat) (nm : Str) (N : List Str) (df : Df) : Ent := ⟨nm, N, df, defArgs (tp i), defBody (tp i), defScope (tp i)⟩
def e_common : Ent := en 1 "common" ["one", "other"] d_common
def e_frac : Ent := en 2 "frac" ["top", "bottom", "shared"] d_frac
def e_plus : Ent := en 3 "plus" ["one", "other"] d_plus
def e_less_by : Ent := en 4 "less_by" ["one", "other"] d_less_by
def e_times : Ent := en 5 "times" ["one", "other"] d_times
def e_over : Ent := en 6 "over" ["one", "other"] d_over
def e_is_less : Ent := en 7 "is_less" ["one", "other"] d_is_less
def e_rest_of : Ent := en 8 "rest_of" ["one"] d_rest_of
def e_sum_of : Ent := en 9 "sum_of" ["fractions", "found", "one"] d_sum_of
def e_product_of : Ent := en 10 "product_of" ["fractions", "found", "one"] d_product_of
def e_is_frac : Ent := en 11 "is_frac" ["thing", "part"] d_is_frac
def e_is_chance : Ent := en 12 "is_chance" ["thing"] d_is_chance
def e_law_begin : Ent := en 14 "_law_begin" ["script", "cell"] d_law_begin
def e_law_draw : Ent := en 15 "_law_draw" ["d", "many", "value", "size", "cell"] d_law_draw
def e_law_pick : Ent := en 16 "_law_pick" ["d", "row"] d_law_pick
def e_law_rare : Ent := en 17 "_law_rare" ["d", "many"] d_law_rare
def e_law_is_int : Ent := en 18 "_law_is_int" ["thing"] d_law_is_int
def e_law_says : Ent := en 19 "_law_says" ["told", "due"] d_law_says
def e_law_gcd : Ent := en 20 "_law_gcd" ["a", "b"] d_law_gcd
def e_law_frac : Ent := en 21 "_law_frac" ["n", "d", "common_v"] d_law_frac
def e_law_is_frac : Ent := en 22 "_law_is_frac" ["thing"] d_law_is_frac
def e_law_number : Ent := en 23 "_law_number" ["d", "way", "found", "k"] d_law_number
def e_law_parts : Ent := en 24 "_law_parts" ["d", "top", "bottom", "k", "factor"] d_law_parts
def e_law_tells : Ent := en 25 "_law_tells" ["told", "top", "bottom"] d_law_tells
def e_law_two : Ent := en 26 "_law_two" ["one", "other", "a", "b", "c", "e"] d_law_two
def e_law_odd : Ent := en 27 "_law_odd" ["a", "b", "k", "found"] d_law_odd
def e_law_alone : Ent := en 28 "_law_alone" ["d", "one", "a", "b", "thing", "due"] d_law_alone
def e_law_together : Ent := en 29 "_law_together" ["row", "high", "low", "top", "bottom", "a", "b"] d_law_together
def e_law : Ent := en 30 "law" ["script", "d", "pairs", "row", "top", "bottom", "made", "one", "other", "k"] d_law
def T : List Ent := [e_common, e_frac, e_plus, e_less_by, e_times, e_over, e_is_less, e_rest_of, e_sum_of, e_product_of, e_is_frac, e_is_chance,
  e_law_begin, e_law_draw, e_law_pick, e_law_rare, e_law_is_int, e_law_says, e_law_gcd, e_law_frac, e_law_is_frac, e_law_number, e_law_parts,
  e_law_tells, e_law_two, e_law_odd, e_law_alone, e_law_together, e_law]
theorem T_ok : (T.all fun e => entOk (T.map (·.nm)) e) = true := by decide +kernel
theorem T_has : Has (progOf T) := by constructor <;> rfl
def lo0 : List Str := ["__name__", "common", "frac", "plus", "less_by", "times", "over", "is_less", "rest_of", "sum_of", "product_of", "is_frac",
  "is_chance", "_law_begin", "_law_draw", "_law_pick", "_law_rare", "_law_is_int", "_law_says", "_law_gcd", "_law_frac", "_law_is_frac", "_law_number",
  "_law_parts", "_law_tells", "_law_two", "_law_odd", "_law_alone", "_law_together"]
def lo : List Str := lo0
abbrev R : PySem.W.OpenRow := PySem.W.OpenLaw.row PySem.Challenge.rw_rowtruce_k44_fractions
abbrev hk : PySem.W.Hook := He.hookD 4 (entFa T) (ents T)
def ob (s : PySem.W.SharedT) : He.AlD := He.obsDG 4 (entFa T) (ents T) (HandSHeadRun.getT s)
theorem ob_eq (s : PySem.W.SharedT) : ob s = hk.obs s.abs := He.obsDG_eq (HandSHeadRun.getT_eq s)
theorem runs (w : World) : HandSHeadRun.RunEq R (PySem.W.view R.prog [30]) hk ob 2000 lo w := by
  intro os
  kernel_rfl
end
end K44
open PySem PySem.W PySem.Calls PyProof.Rows
theorem PySem.Challenge.cw_rowtruce_k44_fractions_holds : PySem.Challenge.rw_rowtruce_k44_fractions.Holds := by
  w_on; o_law
  refine HandSHeadRun.head_any (r := OpenLaw.row PySem.Challenge.rw_rowtruce_k44_fractions) (q := view (OpenLaw.row PySem.Challenge.rw_rowtruce_k44_fractions).prog [30]) (H := K44.hk) (ob := K44.ob) (M := 2000) (loose := K44.lo)
    (d := HandSHeadRun.topDef (OpenLaw.row PySem.Challenge.rw_rowtruce_k44_fractions).prog 30) (kwd := []) K44.ob_eq
    (by kernel_rfl) (fun s => by kernel_rfl) K44.runs (by kernel_rfl) (by kernel_rfl) (by kernel_rfl) (by rfl) (by first | assumption | decide +kernel)
    (by decide +kernel) ⟨rfl, rfl, rfl, rfl, rfl, by decide +kernel⟩ ?hw ?hc
  case hw => w_witness2
  case hc =>
    exact Ev.law_end (l := PySem.Challenge.rw_rowtruce_k44_fractions) (n := 63) (k := 12) (T := K44.T) (e := K44.e_law) rfl (by decide) (by kernel_rfl) ⟨rfl, by decide, by decide⟩
      K44.T_ok (List.mem_of_getElem? (i := 28) rfl) rfl (by kernel_rfl) (by kernel_rfl) (Ev.lawX (K44.law_ok K44.T_has))

