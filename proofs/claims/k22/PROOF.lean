import PyProof.Rows.All
import Wide.All
import OpenK.AllK
import Wide.FinOn
import PySem.Str
import HandS.TupMul
import HandS.ForMost
import HandS.Exc
import HandS.ExcOwn
import HandS.WordsExc
import HandS.TryOnly
import HandS.Flow
import HandS.Style
import HandS.Wide
import HandS.WideBits
import HandS.IsInst
import HandS.SortInts
import HandS.Codes
import HandS.TupAny
import HandS.Deep
import HandS.SetFor
import HandS.Rev
import HandS.Conv
import KE.KDictList
import PyProof.CollectWalk
import PyProof.Rows.SeqMore
import HandS.TupLen
import KE.KDictWalk
import HandS.RaiseMore
import HandS.Small
import KE.SortData
import KE.LtSeq
import PyProof.ConsumeWalk
import HandS.WordsDict
import HandS.More
import HandS.SortRule
import HandS.Walk
import HandS.Zip
import HandS.SortKw
import KE.SortKeyHeap
import HandS.Iter
import KE.GoesMore
import KE.GoesEnum
import PyProof.Draws
import PyProof.EnumMake
import HandS.WideMore
import HandS.ExcInit
import HandS.Nested
import HandS.FStr
import HandS.ExcField
import HandS.ExcIs
import HandS.TryMany
import KE.KExcSuper
import HandS.ExcSuper
import HandS.Defaults
import KE.KExcIs
import HandS.HeadEnd
import HandS.HeadHook1
import HandS.HeadHook2
import HandS.HeadHook3
import HandS.EndBits
import HandS.Head0
import HandS.Head1
import HandS.Head2
import PyProof.Rows.Walk
import PySem.Challenge.RW_rowtruce_k22_tables_checked
set_option linter.all false
/-! EvA: a small language and what its runs ask, over plain data. -/
namespace Ev
open PySem (Str)

/-- plain data; an object that may change stands by its address -/
inductive D where
  | non | bl (b : Bool) | int (i : Int) | str (s : Str) | tup (l : List D) | fz (l : List D) | ref (a : Nat)
  /-- a pair that an iteration makes -/
  | tpu (l : List D)
  deriving Inhabited

/-- objects -/
inductive AO where
  | lst (l : List D)
  | dic (kv : List (D × D))
  /-- a dict whose keys are tuples of ints, not empty -/
  | dit (kv : List (D × D))
  | ins (c : Str) (fs : List (Str × D))

abbrev Sto := Nat → Option AO
abbrev Loc := List (Option D)
abbrev DK := D → Sto → Prop
/-- an exception: its class, its fields -/
structure Xc where
  cls : Str
  fs : List (Str × D)
abbrev XK := Xc → Sto → Prop

def put (S : Sto) (p : Nat) (o : AO) : Sto := fun q => if q = p then some o else S q
/-- less is known -/
def Sub (S S' : Sto) : Prop := ∀ a o, S a = some o → S' a = some o

def line : Nat := 16777216

/-! ### ints -/
def bnot (x : Int) : Int := -x - 1
def band (x y : Int) : Int :=
  if 0 ≤ x then (if 0 ≤ y then Int.ofNat (x.toNat &&& y.toNat) else x - Int.ofNat (x.toNat &&& (bnot y).toNat))
  else (if 0 ≤ y then y - Int.ofNat (y.toNat &&& (bnot x).toNat) else bnot (Int.ofNat ((bnot x).toNat ||| (bnot y).toNat)))
def bor (x y : Int) : Int := bnot (band (bnot x) (bnot y))
def bxor (x y : Int) : Int := bor x y - band x y
def b2 (b : Bool) : Int := if b then 1 else 0

/-! ### sequences -/
def ixn (n : Nat) (i : Int) : Option Nat :=
  if 0 ≤ i then (if i < Int.ofNat n then some i.toNat else none)
  else (if 0 ≤ i + Int.ofNat n then some (i + Int.ofNat n).toNat else none)
def nth {α : Type} (l : List α) (i : Int) : Option α := (ixn l.length i).bind fun j => l[j]?
def six (n d : Nat) : Option Int → Nat
  | none => d
  | some v => if v < 0 then (v + Int.ofNat n).toNat else min v.toNat n
def cut {α : Type} (l : List α) (lo hi : Option Int) : List α :=
  (l.drop (six l.length 0 lo)).take (six l.length l.length hi - six l.length 0 lo)

/-! ### equality of data -/
def allF {α β : Type} (f : α → β → Bool) : List α → List β → Bool
  | [], [] => true
  | a :: r, b :: t => f a b && allF f r t
  | _, _ => false
def eqF : Nat → D → D → Bool
  | _, .non, .non => true
  | _, .bl a, .bl b => a == b
  | _, .bl a, .int b => b2 a == b
  | _, .int a, .bl b => a == b2 b
  | _, .int a, .int b => a == b
  | _, .str a, .str b => decide (a = b)
  | n + 1, .tup l, .tup m => allF (eqF n) l m
  | n + 1, .fz l, .fz m => allF (eqF n) l m
  | _, _, _ => false
def strok (s : Str) : Bool := s.cps.all fun c => decide (c < 1114112)
def fin : Nat → D → Bool
  | _, .non => true
  | _, .bl _ => true
  | _, .int _ => true
  | _, .str s => strok s
  | n + 1, .tup l => l.all (fin n)
  | n + 1, .fz l => l.all (fin n)
  | _, _ => false
/-- the items of a list or a tuple -/
def seq? (S : Sto) : D → Option (List D)
  | .tup l => some l
  | .fz l => some l
  | .ref n => match S n with
    | some (.lst l) => some l
    | _ => none
  | _ => none
/-- a list's items -/
def lst? (S : Sto) : D → Option (List D)
  | .fz l => some l
  | .ref n => match S n with
    | some (.lst l) => some l
    | _ => none
  | _ => none
/-- a value as it stands; a list by its items -/
def flat? (S : Sto) : D → Option D
  | .ref n => match S n with
    | some (.lst l) => some (.fz l)
    | _ => none
  | d => some d
def finT : D → Bool
  | .fz l => l.all (fin 12)
  | d => fin 12 d
def eqT : D → D → Bool
  | .fz l, .fz r => allF (eqF 12) l r
  | .fz _, _ => false
  | _, .fz _ => false
  | a, b => eqF 12 a b
/-- a == b -/
def eqW (S : Sto) (a b : D) (K : Bool → Prop) : Prop :=
  ∃ x y, flat? S a = some x ∧ flat? S b = some y ∧ (finT x && finT y) = true ∧ K (eqT x y)

/-! ### the language -/
inductive Bop | add | sub | mul | fdiv | mod | pow | shl | shr | and | or | xor
  deriving DecidableEq
inductive Cop | lt | le | gt | ge | eq | ne | is | isnot | inn | notin
  deriving DecidableEq
inductive Ty | int | bool | str | tuple | list | dict
  deriving DecidableEq
inductive Bf | len | abs | min2 | max2 | int | bool | list | tuple | sum | minl | maxl | any | all | sorted | str
  deriving DecidableEq
inductive Mt | append | extend | pop0 | pop1 | insert | remove | index | count | reverse | get2 | bitlen
  deriving DecidableEq

mutual
inductive Ex where
  | var (i : Nat)
  | non | bl (b : Bool) | int (z : Int) | str (s : Str)
  | tup (es : Exs) | lst (es : Exs) | dic0
  | bin (op : Bop) (a b : Ex) | neg (a : Ex) | inv (a : Ex) | not (a : Ex)
  | cmp (op : Cop) (a b : Ex) | chn (o1 o2 : Cop) (a b c : Ex)
  | and (a b : Ex) | or (a b : Ex) | ite (c a b : Ex)
  | idx (a i : Ex) | slc (a : Ex) (lo hi : Oe)
  | call (f : Str) (es : Exs)
  | blt (f : Bf) (es : Exs)
  | isi (a : Ex) (t : Ty)
  | mth (m : Mt) (o : Ex) (es : Exs)
  | srtk (f : Str) (e : Ex)
  | srtr (e : Ex)
  | revl (e : Ex)
  | slr (e : Ex)
  | rgt (a : Ex)
  | rgl (a : Ex)
  | dic1 (k v : Ex)
  | cst (x : Str) (d : D)
  | cix (x : Str) (kv : List (Str × D)) (i : Ex)
  | lc (elt : Ex) (tg : Tg) (it : It) (c : Oe) (vs : List Nat)
inductive Exs where
  | nil | cons (e : Ex) (es : Exs)
inductive Oe where
  | no | yes (e : Ex)
inductive It where
  | val (e : Ex) | rg1 (a : Ex) | rg2 (a b : Ex) | rgd (a b : Ex) | enum (e : Ex) | zip (a b : Ex) | rev (e : Ex)
inductive Tg where
  | nm (i : Nat) | tp (ts : Tgs)
inductive Tgs where
  | nil | cons (t : Tg) (ts : Tgs)
end
inductive Lt where
  | tg (t : Tg) | sub (a i : Ex)
/-! what the suite of an except clause asks -/
mutual
inductive Hx where
  | var (i : Nat) | att (f : Str) | isx (cs : List Str)
  | non | bl (b : Bool) | int (z : Int) | str (s : Str)
  | tup (es : Hxs)
  | not (a : Hx) | and (a b : Hx) | or (a b : Hx) | ite (c a b : Hx)
  | eq (a b : Hx) | isnt (a : Hx)
inductive Hxs where
  | nil | cons (e : Hx) (es : Hxs)
end
mutual
inductive Hs where
  | ret (e : Hx) | iff (c : Hx) (a b : Hss) | asg (i : Nat) (e : Hx)
inductive Hss where
  | nil | cons (s : Hs) (ss : Hss)
end
mutual
inductive Sx where
  | asg (t : Lt) (e : Ex)
  | aug (i : Nat) (op : Bop) (e : Ex)
  | augs (a i : Ex) (op : Bop) (e : Ex)
  | exp (e : Ex) | ret (e : Ex) | retn
  | iff (c : Ex) (a b : Sxs)
  | whl (c : Ex) (b : Sxs)
  | for (tg : Tg) (it : It) (b : Sxs)
  | brk | cnt | pss
  /-- raise c(..), c's fields, whether its text names them -/
  | rse (c : Str) (fs : List Str) (fm : Bool) (es : Exs)
  /-- try: b; except c as i: h; the classes that may come -/
  | tryA (b : Sxs) (c : Str) (i : Nat) (h : Hss) (cs : List Str)
  /-- .. except c: h, one after the other -/
  | tryO (b : Sxs) (hs : List (Str × Hss)) (cs : List Str)
inductive Sxs where
  | nil | cons (s : Sx) (ss : Sxs)
end
structure Df where
  np : Nat
  nn : Nat
  body : Sxs
/-- exceptions that are raised (their fields; whether their texts name these); classes that are asked for -/
structure Xt where
  m : List (Str × List Str × Bool)
  n : List Str
/-- a text: its defs, the module's constants, its dicts that nobody changes, its exceptions -/
structure Prog where
  f : Str → Option Df
  c : Str → D → Prop
  t : Str → List (Str × D) → Prop
  x : Xt
instance : CoeFun Prog fun _ => Str → Option Df := ⟨Prog.f⟩

/-! ### operators -/
/-- a new list: an object, or a list that nobody changes -/
def newl (l : List D) (S : Sto) (K : DK) : Prop := (∀ p, S p = none → K (.ref p) (put S p (.lst l))) ∨ K (.fz l) S
mutual
/-- lists at A, which nobody changes from now on -/
inductive FzR (A : List Nat) (S : Sto) : D → D → Prop
  | same (d : D) : FzR A S d d
  | ref {n : Nat} {l l' : List D} : n ∈ A → S n = some (.lst l) → FzRs A S l l' → FzR A S (.ref n) (.fz l')
  | tup {l l' : List D} : FzRs A S l l' → FzR A S (.tup l) (.tup l')
  | fz {l l' : List D} : FzRs A S l l' → FzR A S (.fz l) (.fz l')
inductive FzRs (A : List Nat) (S : Sto) : List D → List D → Prop
  | nil : FzRs A S [] []
  | cons {d d' : D} {l l' : List D} : FzR A S d d' → FzRs A S l l' → FzRs A S (d :: l) (d' :: l')
end
def less (A : List Nat) (S : Sto) : Sto := fun a => if a ∈ A then none else S a
/-- what is wanted, of the value or of the value with lists that nobody changes -/
def frW (K : DK) : DK := fun x S => ∃ A x', A.Nodup ∧ (∀ a ∈ A, ∃ l, S a = some (.lst l)) ∧ FzR A S x x' ∧ K x' (less A S)
def catW (a b : D) (S : Sto) (K : DK) : Prop := ∃ l r, lst? S a = some l ∧ lst? S b = some r ∧ l.length + r.length ≤ line ∧ newl (l ++ r) S K
def mulOk (i j : Int) : Prop := i.natAbs.log2 + j.natAbs.log2 < 130000000
def binW (op : Bop) (a b : D) (S : Sto) (K : DK) : Prop :=
  match op, a, b with
  | .add, .int i, .int j => K (.int (i + j)) S
  | .add, .int i, .bl j => K (.int (i + b2 j)) S
  | .add, .str x, .str y => x.length + y.length ≤ line ∧ K (.str (x ++ y)) S
  | .add, .tup l, .tup m => l.length + m.length ≤ line ∧ K (.tup (l ++ m)) S
  | .add, .ref m, .ref n => catW (.ref m) (.ref n) S K
  | .add, .ref m, .fz n => catW (.ref m) (.fz n) S K
  | .add, .fz m, .ref n => catW (.fz m) (.ref n) S K
  | .add, .fz m, .fz n => catW (.fz m) (.fz n) S K
  | .sub, .int i, .int j => K (.int (i - j)) S
  | .mul, .int i, .int j => mulOk i j ∧ K (.int (i * j)) S
  | .mul, .ref m, .int k => ∃ l, S m = some (.lst l) ∧ k < 2 ^ 62 ∧ -(2 ^ 62) < k ∧ l.length * k.toNat ≤ line ∧ newl (List.replicate k.toNat l).flatten S K
  | .mul, .tup l, .int k => (-1000 ≤ k ∧ k ≤ 1000 ∧ l.length ≤ 1000) ∧ K (.tup (List.replicate k.toNat l).flatten) S
  | .fdiv, .int i, .int j => (0 < j ∧ j.natAbs.log2 < 9000) ∧ K (.int (i / j)) S
  | .mod, .int i, .int j => 0 < j ∧ K (.int (i % j)) S
  | .pow, .int i, .int j => (0 ≤ j ∧ j ≤ 1000000 ∧ i.natAbs < 2 ^ 64) ∧ K (.int (i ^ j.toNat)) S
  | .shl, .int i, .int j => (0 ≤ j ∧ j ≤ 1000000 ∧ i.natAbs < 2 ^ 64) ∧ K (.int (i * 2 ^ j.toNat)) S
  | .shr, .int i, .int j => 0 ≤ j ∧ K (.int (i / 2 ^ j.toNat)) S
  | .and, .int i, .int j => K (.int (band i j)) S
  | .or, .int i, .int j => K (.int (bor i j)) S
  | .xor, .int i, .int j => K (.int (bxor i j)) S
  | _, _, _ => False
/-- a op= b -/
def augW (op : Bop) (a b : D) (S : Sto) (K : DK) : Prop :=
  match a, b with
  | .ref m, .ref n => op = .add ∧ ∃ l r, S m = some (.lst l) ∧ S n = some (.lst r) ∧ l.length + r.length ≤ line ∧ K (.ref m) (put S m (.lst (l ++ r)))
  | .str x, .str y => op = .add ∧ x.length + y.length ≤ line ∧ K (.str (x ++ y)) S
  | .int i, .int j => op ≠ .pow ∧ binW op (.int i) (.int j) S K
  | _, _ => False
/-- the truth of a value -/
def truth? (S : Sto) : D → Option Bool
  | .non => some false
  | .bl b => some b
  | .int i => some (i != 0)
  | .str s => if s.length ≤ line then some ((s.length : Int) != 0) else none
  | .tup l => some (!l.isEmpty)
  | .tpu l => some (!l.isEmpty)
  | .fz l => some (!l.isEmpty)
  | .ref n => match S n with
    | some (.lst l) => some (!l.isEmpty)
    | some (.dic l) => some (!l.isEmpty)
    | _ => none
def lexI : List Int → List Int → Bool
  | [], [] => false
  | [], _ :: _ => true
  | _ :: _, [] => false
  | x :: r, y :: t => if x = y then lexI r t else decide (x < y)
def ints? : List D → Option (List Int)
  | [] => some []
  | .int i :: r => (ints? r).map (i :: ·)
  | _ => none
/-- a pair of ints -/
def pr (p : Int × Int) : D := .tup [.int p.1, .int p.2]
def prs? : List D → Option (List (Int × Int))
  | [] => some []
  | .tup [.int i, .int j] :: r => (prs? r).map ((i, j) :: ·)
  | _ => none
/-- a tuple of ints -/
def tpI (t : List Int) : D := .tup (t.map .int)
def tps? : List D → Option (List (List Int))
  | [] => some []
  | .tup l :: r => (ints? l).bind fun x => (tps? r).map (x :: ·)
  | _ => none
def bls? : List D → Option (List Bool)
  | [] => some []
  | .bl i :: r => (bls? r).map (i :: ·)
  | .int i :: r => (bls? r).map ((i != 0) :: ·)
  | .non :: r => (bls? r).map (false :: ·)
  | _ => none
def ofO {α : Type} (o : Option α) (K : α → Prop) : Prop := ∃ a, o = some a ∧ K a
/-- k in the dict's keys -/
def hask (kv : List (D × D)) (k : D) : Bool := kv.any fun p => eqF 12 p.1 k
def getk (kv : List (D × D)) (k : D) : Option D := (kv.find? fun p => eqF 12 p.1 k).map (·.2)
def putk (kv : List (D × D)) (k v : D) : List (D × D) :=
  if hask kv k then kv.map fun p => if eqF 12 p.1 k then (p.1, v) else p else kv ++ [(k, v)]
def isKey : D → Bool
  | .int _ => true
  | .str _ => true
  | _ => false
/-- a tuple of ints -/
def isTk : D → Bool
  | .tup l => (ints? l).isSome
  | _ => false
def inW (a b : D) (S : Sto) (K : Bool → Prop) : Prop :=
  match b with
  | .tup l => (fin 12 a && l.all (fin 12)) = true ∧ K (l.any fun y => eqF 12 y a)
  | .fz l => (fin 12 a && l.all (fin 12)) = true ∧ K (l.any fun y => eqF 12 y a)
  | .ref n => match S n with
    | some (.lst l) => (fin 12 a && l.all (fin 12)) = true ∧ K (l.any fun y => eqF 12 y a)
    | some (.dic kv) => (isKey a = true ∧ K (hask kv a)) ∨ (isTk a = true ∧ kv = [] ∧ K false)
    | some (.dit kv) => isTk a = true ∧ K (hask kv a)
    | _ => False
  | _ => False
def cmpW (op : Cop) (a b : D) (S : Sto) (K : Bool → Prop) : Prop :=
  match op with
  | .eq => eqW S a b K
  | .ne => eqW S a b fun c => K (!c)
  | .is => b = .non ∧ K (match a with | .non => true | _ => false)
  | .isnot => b = .non ∧ K (match a with | .non => false | _ => true)
  | .inn => inW a b S K
  | .notin => inW a b S fun c => K (!c)
  | .lt => match a, b with
    | .int i, .int j => K (decide (i < j))
    | .tup l, .tup m => ofO (ints? l) fun x => ofO (ints? m) fun y => K (lexI x y)
    | _, _ => False
  | .le => match a, b with
    | .int i, .int j => K (decide (i ≤ j))
    | _, _ => False
  | .gt => match a, b with
    | .int i, .int j => K (decide (j < i))
    | _, _ => False
  | .ge => match a, b with
    | .int i, .int j => K (decide (j ≤ i))
    | _, _ => False
def idxW (a i : D) (S : Sto) (K : D → Prop) : Prop :=
  match a, i with
  | .tup l, .int k => ofO (nth l k) K
  | .fz l, .int k => ofO (nth l k) K
  | .ref n, i => match S n, i with
    | some (.lst l), .int k => ofO (nth l k) K
    | some (.dic kv), k => isKey k = true ∧ ofO (getk kv k) K
    | some (.dit kv), k => isTk k = true ∧ ofO (getk kv k) K
    | _, _ => False
  | _, _ => False
def slcW (a : D) (lo hi : Option Int) (S : Sto) (K : DK) : Prop :=
  match a with
  | .tup l => K (.tup (cut l lo hi)) S
  | .fz l => newl (cut l lo hi) S K
  | .ref n => match S n with
    | some (.lst l) => newl (cut l lo hi) S K
    | _ => False
  | _ => False
/-- a[::-1] -/
def slrW (a : D) (S : Sto) (K : DK) : Prop :=
  match a with
  | .tup l => K (.tup l.reverse) S
  | .fz l => newl l.reverse S K
  | .ref n => match S n with
    | some (.lst l) => newl l.reverse S K
    | _ => False
  | _ => False
def bltW (f : Bf) (as : List D) (S : Sto) (K : DK) : Prop :=
  match f, as with
  | .len, [.str s] => s.length ≤ line ∧ K (.int s.length) S
  | .len, [.tup l] => K (.int l.length) S
  | .len, [.ref n] => match S n with
    | some (.lst l) => K (.int l.length) S
    | some (.dic l) => K (.int l.length) S
    | some (.dit l) => K (.int l.length) S
    | _ => False
  | .abs, [.int i] => K (.int (if i < 0 then -i else i)) S
  | .min2, [.int i, .int j] => K (.int (if j < i then j else i)) S
  | .max2, [.int i, .int j] => K (.int (if j > i then j else i)) S
  | .int, [.int i] => K (.int i) S
  | .int, [.bl b] => K (.int (b2 b)) S
  | .str, [.int i] => i.natAbs.log2 < 1920 ∧ K (.str (toString i : String)) S
  | .bool, [.int i] => K (.bl (i != 0)) S
  | .bool, [.bl b] => K (.bl b) S
  | .len, [.fz l] => K (.int l.length) S
  | .list, [.tup l] => newl l S K
  | .list, [.fz l] => newl l S K
  | .list, [.ref n] => match S n with
    | some (.lst l) => newl l S K
    | some (.dic kv) => newl (kv.map (·.1)) S K
    | some (.dit kv) => newl (kv.map (·.1)) S K
    | _ => False
  | .tuple, [.tup l] => K (.tup l) S
  | .tuple, [.fz l] => K (.tup l) S
  | .tuple, [.ref n] => match S n with
    | some (.lst l) => K (.tup l) S
    | _ => False
  | .sum, [a] => ofO (lst? S a) fun l => ofO (ints? l) fun z => K (.int z.sum) S
  | .maxl, [a] => ofO (lst? S a) fun l => ofO (ints? l) fun z => z ≠ [] ∧ ∀ m, m ∈ z → (∀ y, y ∈ z → y ≤ m) → K (.int m) S
  | .minl, [a] => ofO (lst? S a) fun l => ofO (ints? l) fun z => z ≠ [] ∧ ∀ m, m ∈ z → (∀ y, y ∈ z → m ≤ y) → K (.int m) S
  | .any, [a] => ofO (lst? S a) fun l => ofO (bls? l) fun z => K (.bl (z.any id)) S
  | .all, [a] => ofO (lst? S a) fun l => ofO (bls? l) fun z => K (.bl (z.all id)) S
  | .sorted, [a] => ofO (lst? S a) fun l => (ofO (ints? l) fun z => ∀ z' : List Int, z'.Perm z → z'.Pairwise (· ≤ ·) → newl (z'.map .int) S K) ∨
      (ofO (prs? l) fun z => ∀ z' : List (Int × Int), z'.Perm z → z'.Pairwise (fun a b => a.1 < b.1 ∨ (a.1 = b.1 ∧ a.2 ≤ b.2)) → newl (z'.map pr) S K) ∨
      (ofO (tps? l) fun z => ((∀ t ∈ z, t ≠ []) ∨ ∀ t ∈ z, t = []) ∧ ∀ z' : List (List Int), z'.Perm z → z'.Pairwise (fun a b => lexI b a = false) → newl (z'.map tpI) S K)
  | _, _ => False
def isiD (S : Sto) (a : D) (t : Ty) (K : Bool → Prop) : Prop :=
  match a with
  | .non => K false
  | .bl _ => K (decide (t = .bool ∨ t = .int))
  | .int _ => K (decide (t = .int))
  | .str _ => K (decide (t = .str))
  | .tup _ => K (decide (t = .tuple))
  | .tpu _ => K (decide (t = .tuple))
  | .fz _ => K (decide (t = .list))
  | .ref n => match S n with
    | some (.lst _) => K (decide (t = .list))
    | some (.dic _) => K (decide (t = .dict))
    | _ => False
/-- the receiver is of the method's type -/
def rcvW (m : Mt) (x : D) (S : Sto) : Prop :=
  match m, x with
  | .bitlen, .int _ => True
  | .get2, .ref n => match S n with
    | some (.dic _) => True
    | _ => False
  | .bitlen, _ => False
  | .index, .fz _ => True
  | .count, .fz _ => True
  | .count, .tup _ => True
  | _, .ref n => match S n with
    | some (.lst _) => True
    | _ => False
  | _, _ => False
def indW (l : List D) (x : D) (S : Sto) (K : DK) : Prop := (fin 12 x && l.all (fin 12)) = true ∧ ∃ j y, l[j]? = some y ∧ eqF 12 y x = true ∧ (∀ (m : Nat) z, m < j → l[m]? = some z → eqF 12 z x = false) ∧ K (.int (j : Nat)) S
def cntW (l : List D) (x : D) (S : Sto) (K : DK) : Prop := (fin 12 x && l.all (fin 12)) = true ∧ K (.int (l.countP fun y => eqF 12 y x : Nat)) S
def blen (i : Int) : Int := if i = 0 then 0 else Int.ofNat (i.natAbs.log2 + 1)
def mthW (m : Mt) (o : D) (as : List D) (S : Sto) (K : DK) : Prop :=
  match o with
  | .int z => match m, as with
    | .bitlen, [] => K (.int (blen z)) S
    | _, _ => False
  | .fz l => match m, as with
    | .index, [x] => indW l x S K
    | .count, [x] => cntW l x S K
    | _, _ => False
  | .tup l => match m, as with
    | .count, [x] => cntW l x S K
    | _, _ => False
  | .ref n => match S n, m, as with
    | some (.lst l), .append, [x] => l.length < line ∧ K .non (put S n (.lst (l ++ [x])))
    | some (.lst l), .extend, [x] => ∃ r, seq? S x = some r ∧ l.length + r.length ≤ line ∧ K .non (put S n (.lst (l ++ r)))
    | some (.lst l), .pop0, [] => ofO (l[l.length - 1]?) fun x => K x (put S n (.lst l.dropLast))
    | some (.lst l), .pop1, [.int i] => ofO (ixn l.length i) fun j => ofO (l[j]?) fun x => K x (put S n (.lst (l.eraseIdx j)))
    | some (.lst l), .insert, [.int i, x] => l.length < line ∧ 0 ≤ i ∧ i < 2 ^ 62 ∧ K .non (put S n (.lst (l.take i.toNat ++ [x] ++ l.drop i.toNat)))
    | some (.lst l), .index, [x] => indW l x S K
    | some (.lst l), .count, [x] => cntW l x S K
    | some (.dic kv), .get2, [k, d] => isKey k = true ∧ K ((getk kv k).getD d) S
    | _, _, _ => False
  | _ => False

/-! ### targets -/
mutual
def tgW : Tg → D → Loc → (Loc → Prop) → Prop
  | .nm i, d, σ, K => K (σ.set i (some d))
  | .tp ts, .tup l, σ, K => tgsW ts l σ K
  | .tp ts, .tpu l, σ, K => tgsW ts l σ K
  | .tp _, _, _, _ => False
def tgsW : Tgs → List D → Loc → (Loc → Prop) → Prop
  | .nil, [], σ, K => K σ
  | .cons t ts, d :: r, σ, K => tgW t d σ fun σ' => tgsW ts r σ' K
  | _, _, _, _ => False
end
def wipe (σ : Loc) : List Nat → Loc
  | [] => σ
  | v :: vs => (wipe σ vs).set v none

/-- an iteration: the items, and what must stay true of the store while they are taken -/
def small62 (i : Int) : Prop := -(2 ^ 62) < i ∧ i < 2 ^ 62
def itvW (d : D) (S : Sto) (K : List D → (Sto → Prop) → Prop) : Prop :=
  match d with
  | .tup l => K l fun _ => True
  | .fz l => K l fun _ => True
  | .ref n => match S n with
    | some (.lst l) => K l fun S' => S' n = some (.lst l)
    | _ => False
  | _ => False
/-- a list's items -/
def itlW (d : D) (S : Sto) (K : List D → (Sto → Prop) → Prop) : Prop :=
  match d with
  | .fz l => K l fun _ => True
  | .ref n => match S n with
    | some (.lst l) => K l fun S' => S' n = some (.lst l)
    | _ => False
  | _ => False
def zip2 (l r : List D) : List D := (l.zip r).map fun p => .tpu [p.1, p.2]
def zipW (x y : D) (S : Sto) (K : List D → (Sto → Prop) → Prop) : Prop :=
  match x, y with
  | .tup l, .tup r => K (zip2 l r) fun _ => True
  | x, y => itlW x S fun l c1 => itlW y S fun r c2 => K (zip2 l r) fun S' => c1 S' ∧ c2 S'
def forW (chk : Sto → Prop) (body : D → Loc → Sto → (Loc → Sto → Prop) → Prop) : List D → Loc → Sto → (Loc → Sto → Prop) → Prop
  | [], σ, S, K => chk S ∧ K σ S
  | d :: r, σ, S, K => chk S ∧ body d σ S fun σ' S' => forW chk body r σ' S' K
/-- a comprehension: the block's slots stand as at its start at each turn; acc what is made so far -/
def lcW (chk : Sto → Prop) (turn : D → Sto → (Option D → Sto → Prop) → Prop) : List D → List D → Sto → (List D → Sto → Prop) → Prop
  | [], acc, S, K => chk S ∧ K acc S
  | d :: r, acc, S, K => chk S ∧ turn d S fun o S' => match o with
    | some x => acc.length < line ∧ lcW chk turn r (acc ++ [x]) S' K
    | none => lcW chk turn r acc S' K

abbrev CallT := Str → List D → Sto → DK → XK → Prop
/-- calls; k: a level deeper (a key's calls) -/
structure Cs where
  c : CallT
  k : CallT
def noX : XK := fun _ _ => False

/-! ### expressions -/
mutual
def exW (C : Cs) : Ex → Loc → XK → Sto → DK → Prop
  | .var i, σ, _, S, K => ∃ d, σ[i]? = some (some d) ∧ K d S
  | .non, _, _, S, K => K .non S
  | .bl b, _, _, S, K => K (.bl b) S
  | .int z, _, _, S, K => K (.int z) S
  | .str s, _, _, S, K => K (.str s) S
  | .tup es, σ, E, S, K => exsW C es σ E S fun l S' => l.length ≤ line ∧ K (.tup l) S'
  | .lst es, σ, E, S, K => exsW C es σ E S fun l S' => l.length ≤ line ∧ newl l S' K
  | .dic0, _, _, S, K => ∀ p, S p = none → K (.ref p) (put S p (.dic []))
  | .bin op a b, σ, E, S, K => exW C a σ E S fun x S1 => exW C b σ E S1 fun y S2 => binW op x y S2 K
  | .neg a, σ, E, S, K => exW C a σ E S fun x S1 => ∃ i, x = .int i ∧ K (.int (-i)) S1
  | .inv a, σ, E, S, K => exW C a σ E S fun x S1 => ∃ i, x = .int i ∧ K (.int (bnot i)) S1
  | .not a, σ, E, S, K => exW C a σ E S fun x S1 => ofO (truth? S1 x) fun b => K (.bl (!b)) S1
  | .cmp op a b, σ, E, S, K => exW C a σ E S fun x S1 => exW C b σ E S1 fun y S2 => cmpW op x y S2 fun c => K (.bl c) S2
  | .chn o1 o2 a b c, σ, E, S, K => exW C a σ E S fun x S1 => exW C b σ E S1 fun y S2 => cmpW o1 x y S2 fun k =>
      if k = true then exW C c σ E S2 fun z S3 => cmpW o2 y z S3 fun k' => K (.bl k') S3 else K (.bl false) S2
  | .and a b, σ, E, S, K => exW C a σ E S fun x S1 => ofO (truth? S1 x) fun k => if k = true then exW C b σ E S1 K else K x S1
  | .or a b, σ, E, S, K => exW C a σ E S fun x S1 => ofO (truth? S1 x) fun k => if k = true then K x S1 else exW C b σ E S1 K
  | .ite c a b, σ, E, S, K => exW C c σ E S fun x S1 => ofO (truth? S1 x) fun k => if k = true then exW C a σ E S1 K else exW C b σ E S1 K
  | .idx a i, σ, E, S, K => exW C a σ E S fun x S1 => exW C i σ E S1 fun y S2 => idxW x y S2 fun d => K d S2
  | .slc a lo hi, σ, E, S, K => exW C a σ E S fun x S1 => oeW C lo σ E S1 fun l S2 => oeW C hi σ E S2 fun h S3 => slcW x l h S3 K
  | .call f es, σ, E, S, K => exsW C es σ E S fun l S1 => C.c f l S1 K E
  | .blt f es, σ, E, S, K => exsW C es σ E S fun l S1 => bltW f l S1 K
  | .isi a t, σ, E, S, K => exW C a σ E S fun x S1 => isiD S1 x t fun b => K (.bl b) S1
  | .mth m o es, σ, E, S, K => exW C o σ E S fun x S1 => rcvW m x S1 ∧ exsW C es σ E S1 fun l S2 => mthW m x l S2 K
  | .srtk f e, σ, E, S, K => exW C e σ E S fun x S1 => ∃ l z, ∃ kx ky : Int → Int, lst? S1 x = some l ∧ ints? l = some z ∧ (∀ i ∈ z, C.k f [.int i] (fun _ => none) (fun d _ => d = .tup [.int (kx i), .int (ky i)]) noX) ∧
      newl ((z.mergeSort fun a b => decide (kx a < kx b ∨ (kx a = kx b ∧ ky a ≤ ky b))).map .int) S1 K
  | .srtr e, σ, E, S, K => exW C e σ E S fun x S1 => ofO (lst? S1 x) fun l => ofO (ints? l) fun z => ∀ z' : List Int, z'.Perm z → z'.Pairwise (fun a b => b ≤ a) → newl (z'.map .int) S1 K
  | .revl e, σ, E, S, K => exW C e σ E S fun x S1 => ofO (seq? S1 x) fun l => newl l.reverse S1 K
  | .slr e, σ, E, S, K => exW C e σ E S fun x S1 => slrW x S1 K
  | .rgt a, σ, E, S, K => exW C a σ E S fun x S1 => ∃ i, x = .int i ∧ i < 2 ^ 24 ∧ -(2 ^ 62) < i ∧ K (.tup ((List.range i.toNat).map fun (k : Nat) => .int k)) S1
  | .rgl a, σ, E, S, K => exW C a σ E S fun x S1 => ∃ i, x = .int i ∧ i < 2 ^ 24 ∧ -(2 ^ 62) < i ∧ newl ((List.range i.toNat).map fun (k : Nat) => .int k) S1 K
  | .dic1 a b, σ, E, S, K => exW C a σ E S fun x S1 => exW C b σ E S1 fun y S2 => isKey x = true ∧ ∀ p, S2 p = none → K (.ref p) (put S2 p (.dic [(x, y)]))
  | .cst _ d, _, _, S, K => K d S
  | .cix _ kv a, σ, E, S, K => exW C a σ E S fun x S1 => ∃ z d, x = .str z ∧ kv.lookup z = some d ∧ K d S1
  | .lc elt tg it c vs, σ, E, S, K => itW C it σ E S fun ds chk S1 =>
      lcW chk (fun d S2 Kt => tgW tg d (wipe σ vs) fun σ2 =>
        ocW C c σ2 S2 fun b S3 => if b = true then exW C elt σ2 noX S3 fun x S4 => Kt (some x) S4 else Kt none S3) ds [] S1 fun l S5 => newl l S5 K
def exsW (C : Cs) : Exs → Loc → XK → Sto → (List D → Sto → Prop) → Prop
  | .nil, _, _, S, K => K [] S
  | .cons e es, σ, E, S, K => exW C e σ E S fun x S1 => exsW C es σ E S1 fun l S2 => K (x :: l) S2
/-- a part of a slice -/
def oeW (C : Cs) : Oe → Loc → XK → Sto → (Option Int → Sto → Prop) → Prop
  | .no, _, _, S, K => K none S
  | .yes e, σ, E, S, K => exW C e σ E S fun x S1 => ∃ i, x = .int i ∧ K (some i) S1
/-- a comprehension's test -/
def ocW (C : Cs) : Oe → Loc → Sto → (Bool → Sto → Prop) → Prop
  | .no, _, S, K => K true S
  | .yes e, σ, S, K => exW C e σ noX S fun x S1 => ofO (truth? S1 x) fun b => K b S1
def itW (C : Cs) : It → Loc → XK → Sto → (List D → (Sto → Prop) → Sto → Prop) → Prop
  | .val e, σ, E, S, K => exW C e σ E S fun x S1 => itvW x S1 fun l chk => K l chk S1
  | .rg1 a, σ, E, S, K => exW C a σ E S fun x S1 => ∃ i, x = .int i ∧ small62 i ∧ K ((List.range i.toNat).map fun (k : Nat) => .int k) (fun _ => True) S1
  | .rg2 a b, σ, E, S, K => exW C a σ E S fun x S1 => exW C b σ E S1 fun y S2 => ∃ i j, x = .int i ∧ y = .int j ∧ small62 i ∧ small62 j ∧
      K ((List.range (j - i).toNat).map fun (k : Nat) => .int (i + k)) (fun _ => True) S2
  | .rgd a b, σ, E, S, K => exW C a σ E S fun x S1 => exW C b σ E S1 fun y S2 => ∃ i j, x = .int i ∧ y = .int j ∧ small62 i ∧ small62 j ∧
      K ((List.range (i - j).toNat).map fun (k : Nat) => .int (i - k)) (fun _ => True) S2
  | .enum e, σ, E, S, K => exW C e σ E S fun x S1 => itvW x S1 fun l chk => K (l.zipIdx.map fun p => .tpu [.int p.2, p.1]) chk S1
  | .zip a b, σ, E, S, K => exW C a σ E S fun x S1 => exW C b σ E S1 fun y S2 => zipW x y S2 fun l chk => K l chk S2
  | .rev e, σ, E, S, K => exW C e σ E S fun x S1 => itvW x S1 fun l chk => K l.reverse chk S1
end

/-! ### statements -/
structure Ks where
  nx : Loc → Sto → Prop
  rt : DK
  bk : Loc → Sto → Prop
  ct : Loc → Sto → Prop
  ex : Xc → Loc → Sto → Prop
/-- a value that an exception's text may name -/
def fmtD : D → Bool
  | .str s => decide (s.length ≤ 3000)
  | .int i => decide (i.natAbs.log2 < 1900)
  | .non => true
  | _ => false
/-- c is d or stands over it -/
def subC (c d : Str) : Bool := decide (c = d) || (decide (d = Str.ofString "TruceError") || decide (d = Str.ofString "ValueError"))
mutual
def hxD (x : Xc) (σ : Loc) (S : Sto) : Hx → Option D
  | .var i => (σ[i]?).join
  | .att f => x.fs.lookup f
  | .isx cs => some (.bl (cs.any fun c => subC x.cls c))
  | .non => some .non
  | .bl b => some (.bl b)
  | .int z => some (.int z)
  | .str s => some (.str s)
  | .tup es => (hxsD x σ S es).map .tup
  | .not a => (hxD x σ S a).bind fun d => (truth? S d).map fun b => .bl (!b)
  | .and a b => (hxD x σ S a).bind fun d => (truth? S d).bind fun k => if k = true then hxD x σ S b else some d
  | .or a b => (hxD x σ S a).bind fun d => (truth? S d).bind fun k => if k = true then some d else hxD x σ S b
  | .ite c a b => (hxD x σ S c).bind fun d => (truth? S d).bind fun k => if k = true then hxD x σ S a else hxD x σ S b
  | .eq a b => (hxD x σ S a).bind fun d => (hxD x σ S b).bind fun e => (flat? S d).bind fun u => (flat? S e).bind fun v => if (finT u && finT v) = true then some (.bl (eqT u v)) else none
  | .isnt a => (hxD x σ S a).map fun d => .bl (match d with | .non => false | _ => true)
def hxsD (x : Xc) (σ : Loc) (S : Sto) : Hxs → Option (List D)
  | .nil => some []
  | .cons e es => (hxD x σ S e).bind fun d => (hxsD x σ S es).map (d :: ·)
end
mutual
def hsW (x : Xc) : Hs → Loc → Sto → Ks → Prop
  | .ret e, σ, S, D => ofO (hxD x σ S e) fun d => D.rt d S
  | .iff c a b, σ, S, D => ofO (hxD x σ S c) fun d => ofO (truth? S d) fun k => if k = true then hssW x a σ S D else hssW x b σ S D
  | .asg i e, σ, S, D => ofO (hxD x σ S e) fun d => D.nx (σ.set i (some d)) S
def hssW (x : Xc) : Hss → Loc → Sto → Ks → Prop
  | .nil, σ, S, D => D.nx σ S
  | .cons s ss, σ, S, D => hsW x s σ S { D with nx := fun σ' S' => hssW x ss σ' S' D }
end
/-- except c as i: h -/
def asW (x : Xc) (c : Str) (i : Nat) (h : Hss) (σ : Loc) (S : Sto) (D : Ks) : Prop :=
  if subC x.cls c = true then hssW x h (σ.set i none) S { D with nx := fun σ2 S2 => D.nx (σ2.set i none) S2, bk := fun σ2 S2 => D.bk (σ2.set i none) S2, ct := fun σ2 S2 => D.ct (σ2.set i none) S2 } else D.ex x σ S
/-- except clauses without a name -/
def hdsW (x : Xc) (σ : Loc) (S : Sto) (D : Ks) : List (Str × Hss) → Prop
  | [] => D.ex x σ S
  | (c, h) :: r => if subC x.cls c = true then hssW x h σ S D else hdsW x σ S D r
def Ks.at (D : Ks) (σ : Loc) : XK := fun x S => D.ex x σ S
def subW (a i v : D) (S : Sto) (K : Sto → Prop) : Prop :=
  match a, i with
  | .ref n, i => match S n, i with
    | some (.lst l), .int k => ofO (ixn l.length k) fun j => K (put S n (.lst (l.set j v)))
    | some (.dic kv), k => (isKey k = true ∧ kv.length < line ∧ K (put S n (.dic (putk kv k v)))) ∨ (isTk k = true ∧ kv = [] ∧ K (put S n (.dit [(k, v)])))
    | some (.dit kv), k => isTk k = true ∧ kv.length < line ∧ K (put S n (.dit (putk kv k v)))
    | _, _ => False
  | _, _ => False
/-- an assignment's target: a name, a tuple's items, a list's items -/
def taW (S : Sto) (t : Tg) (x : D) (σ : Loc) (K : Loc → Prop) : Prop := tgW t x σ K ∨ ∃ ts l, t = .tp ts ∧ lst? S x = some l ∧ tgsW ts l σ K
def asgW (C : Cs) (t : Lt) (e : Ex) (σ : Loc) (S : Sto) (D : Ks) : Prop :=
  match t with
  | .tg t => exW C e σ (D.at σ) S fun x S1 => taW S1 t x σ fun σ' => D.nx σ' S1
  | .sub a i => exW C e σ (D.at σ) S fun x S1 => exW C a σ (D.at σ) S1 fun o S2 => exW C i σ (D.at σ) S2 fun k S3 => subW o k x S3 fun S4 => D.nx σ S4
mutual
def sxW (C : Cs) : Sx → Loc → Sto → Ks → Prop
  | .asg t e, σ, S, D => asgW C t e σ S D
  | .aug i op e, σ, S, D => ∃ x, σ[i]? = some (some x) ∧ exW C e σ (D.at σ) S fun y S1 => augW op x y S1 fun z S2 => D.nx (σ.set i (some z)) S2
  | .augs a i op e, σ, S, D => exW C a σ (D.at σ) S fun o S1 => exW C i σ (D.at σ) S1 fun k S2 => idxW o k S2 fun x => exW C e σ (D.at σ) S2 fun y S3 =>
      augW op x y S3 fun z S4 => subW o k z S4 fun S5 => D.nx σ S5
  | .exp e, σ, S, D => exW C e σ (D.at σ) S fun _ S1 => D.nx σ S1
  | .ret e, σ, S, D => exW C e σ (D.at σ) S (frW D.rt)
  | .retn, _, S, D => D.rt .non S
  | .iff c a b, σ, S, D => exW C c σ (D.at σ) S fun x S1 => ofO (truth? S1 x) fun k => if k = true then sxsW C a σ S1 D else sxsW C b σ S1 D
  | .whl c b, σ, S, D => ∃ W : Nat → Loc → Sto → Prop, (∃ m, W m σ S) ∧ ∀ m σ S, W m σ S → exW C c σ (D.at σ) S fun x S1 => ofO (truth? S1 x) fun k =>
      if k = true then sxsW C b σ S1 { D with nx := fun σ' S' => ∃ m', m' < m ∧ W m' σ' S', ct := fun σ' S' => ∃ m', m' < m ∧ W m' σ' S', bk := D.nx } else D.nx σ S1
  | .for tg it b, σ, S, D => itW C it σ (D.at σ) S fun l chk S1 => forW chk (fun d σ S K => tgW tg d σ fun σ' => sxsW C b σ' S { D with nx := K, ct := K, bk := D.nx }) l σ S1 D.nx
  | .brk, σ, S, D => D.bk σ S
  | .cnt, σ, S, D => D.ct σ S
  | .pss, σ, S, D => D.nx σ S
  | .rse c fs fm es, σ, S, D => exsW C es σ (D.at σ) S fun l S1 => l.length = fs.length ∧ (fm = true → l.all fmtD = true) ∧ D.ex ⟨c, fs.zip l⟩ σ S1
  | .tryA b c i h cs, σ, S, D => sxsW C b σ S { D with ex := fun x σ' S' => x.cls ∈ cs ∧ asW x c i h σ' S' D }
  | .tryO b hs cs, σ, S, D => sxsW C b σ S { D with ex := fun x σ' S' => x.cls ∈ cs ∧ hdsW x σ' S' D hs }
def sxsW (C : Cs) : Sxs → Loc → Sto → Ks → Prop
  | .nil, σ, S, D => D.nx σ S
  | .cons s ss, σ, S, D => sxW C s σ S { D with nx := fun σ' S' => sxsW C ss σ' S' D }
end
/-- what was hidden, and what a part of the store has become -/
def mrg (S S0 S' : Sto) : Sto := fun a => match S0 a, S a with
  | none, some o => some o
  | _, _ => S' a
/-- a def called: a part of the store is hidden meanwhile; what it leaves behind may be forgotten in part -/
def bodyW (C : Cs) (d : Df) (as : List D) (S : Sto) (K : DK) (E : XK) : Prop :=
  as.length = d.np ∧ ∃ S0, Sub S0 S ∧ sxsW C d.body (as.map some ++ List.replicate (d.nn - d.np) none) S0
    ⟨fun _ S' => ∃ S'', Sub S'' S' ∧ K .non (mrg S S0 S''), fun x S' => ∃ S'', Sub S'' S' ∧ K x (mrg S S0 S''), fun _ _ => False, fun _ _ => False, fun x _ S' => ∃ S'', Sub S'' S' ∧ E x (mrg S S0 S'')⟩
def noC : CallT := fun _ _ _ _ _ => False
def callC (p : Prog) : Nat → Cs
  | 0 => ⟨noC, noC⟩
  | n + 1 => ⟨fun f as S K E => match p f with
    | some d => bodyW (callC p n) d as S K E
    | none => False, (callC p n).c⟩
def callW (p : Prog) (n : Nat) : CallT := (callC p n).c
/-- what the law's def is to answer, of each script -/
def LawW (P : Prog) (k most : Nat) (nm : Str) : Prop := ∀ ns : List Int, ns.length ≤ most → (∀ z ∈ ns, z.natAbs.log2 < 1048576) →
  callW P k nm [.fz (ns.map .int)] (fun _ => none) (fun d _ => d = .bl true) (fun _ _ => False)
end Ev
set_option Elab.async false
set_option linter.all false
set_option maxRecDepth 100000
set_option maxHeartbeats 4000000
/-! EvTm: a tuple times an int, the empty one too. -/
namespace Ev
open PySem PySem.Spec PyProof.Rows L2
theorem tuple_mulE (l : Addr) (items : Array Value) (n : Nat) (dd : Option Addr) (sl : Array (Option Value)) (x : Int) (u : Tok) (c0 : (decide (x < -(2 ^ 63)) || decide (x ≥ 2 ^ 63)) = false) (c1 : (items.isEmpty || x == 1) = true) :
    Meets (Builtin.«tuple.__mul__» ⟨[.ref l, .int x u], []⟩) (fun _ R s => s.heap.get? l = some { cls := .type "tuple", dict := dd, data := .seq items n, slots := sl } ∧
      R (.ok (.ret (Value.ref l))) s) :=
  .of_wp fun prog w A R s h => by
    obtain ⟨hp, g, d, tk, os⟩ := s
    obtain ⟨hl, h⟩ := h
    have f1 := AutoSeq1.idx_int
    wp_walk using wpAny_loadPart' hl
    refine wpAny_ite_false (decide_eq_false (by rw [c0]; exact Bool.false_ne_true)) ?_
    wp_walk using wpAny_loadPart' hl
    exact ⟨_, rfl, h⟩
theorem tuple_mul0 (l : Addr) (items : Array Value) (n : Nat) (dd : Option Addr) (sl : Array (Option Value)) (x : Int) (u : Tok) (c0 : (decide (x < -(2 ^ 63)) || decide (x ≥ 2 ^ 63)) = false) (c1 : (items.isEmpty || x == 1) = false) (c2 : (decide (x ≤ 0) || items.isEmpty) = true) :
    Meets (Builtin.«tuple.__mul__» ⟨[.ref l, .int x u], []⟩) (fun _ R s => s.heap.get? l = some { cls := .type "tuple", dict := dd, data := .seq items n, slots := sl } ∧
      R (.ok (.ret (Value.ref s.heap.objs.size))) { s with heap := s.heap.push { cls := Value.type "tuple", data := Data.seq #[] }, toks := s.toks }) :=
  .of_wp fun prog w A R s h => by
    obtain ⟨hp, g, d, tk, os⟩ := s
    obtain ⟨hl, h⟩ := h
    have f1 := AutoSeq1.idx_int
    wp_walk using wpAny_loadPart' hl
    refine wpAny_ite_false (decide_eq_false (by rw [c0]; exact Bool.false_ne_true)) ?_
    wp_walk using wpAny_loadPart' hl
    exact ⟨_, rfl, h⟩
end Ev
set_option Elab.async false
set_option linter.all false
set_option maxRecDepth 100000
/-! EvB1: what plain data stands for in the layer's heap. -/
namespace Ev
open PySem PySem.Spec PyProof.Rows L2

/-- a list that nobody changes -/
def FzL (K : PySem.W.Frag) (H : Hp) (a : Addr) (xs : List V) : Prop :=
  (∃ o, H a = some (.frz o (.lst xs))) ∨ (∃ (o : Obj) (its : Array Value) (n : Nat), K.lookup a = some o ∧ o.cls = .type "list" ∧ o.dict = none ∧ o.data = .seq its n ∧ its.size ≤ sizeLine ∧ Vals xs its.toList)

/-- a tuple that has no dict -/
def TpS (K : PySem.W.Frag) (H : Hp) (a : Addr) (xs : List V) : Prop :=
  (∃ o, H a = some (.frz o (.tup xs)) ∧ o.dict = none) ∨ (∃ (o : Obj) (its : Array Value) (n : Nat), K.lookup a = some o ∧ o.cls = .type "tuple" ∧ o.dict = none ∧ o.data = .seq its n ∧ its.size ≤ sizeLine ∧ Vals xs its.toList)

mutual
inductive RV (K : PySem.W.Frag) (H : Hp) : D → V → Prop
  | non : RV K H .non .non
  | bl (b : Bool) : RV K H (.bl b) (.bl b)
  | int (i : Int) : RV K H (.int i) (.int i)
  | str (s : Str) : RV K H (.str s) (.str s)
  | tup {ds : List D} {a : Addr} {xs : List V} : TpS K H a xs → RVs K H ds xs → RV K H (.tup ds) (.ref a)
  | tpu {ds : List D} {a : Addr} {xs : List V} : SqT K H a xs → RVs K H ds xs → RV K H (.tpu ds) (.ref a)
  | fz {ds : List D} {a : Addr} {xs : List V} : FzL K H a xs → RVs K H ds xs → RV K H (.fz ds) (.ref a)
  | ref (a : Nat) : RV K H (.ref a) (.ref a)
inductive RVs (K : PySem.W.Frag) (H : Hp) : List D → List V → Prop
  | nil : RVs K H [] []
  | cons {d : D} {ds : List D} {v : V} {vs : List V} : RV K H d v → RVs K H ds vs → RVs K H (d :: ds) (v :: vs)
end
/-- a dict's pairs -/
def kd : Key → D
  | .inl i => .int i
  | .inr s => .str s
inductive RKs (K : PySem.W.Frag) (H : Hp) : List (D × D) → List (Key × V) → Prop
  | nil : RKs K H [] []
  | cons (k : Key) {d : D} {v : V} {l : List (D × D)} {kv : List (Key × V)} : RV K H d v → RKs K H l kv → RKs K H ((kd k, d) :: l) ((k, v) :: kv)
/-- a dict whose keys are tuples of ints: the keys, where they stand, the values -/
def ikey (ks : List Int) : List Key := ks.map Sum.inl
def tdR : (List Int × Addr × V) → (List Key × Addr × Value) → Prop := fun p q => q.1 = ikey p.1 ∧ q.2.1 = p.2.1 ∧ RelV p.2.2 q.2.2
def tdφ (a : Addr) (xs : List (List Int × Addr × V)) : Heap → Prop := fun h => ∃ (P : Program) (w : World) (ys : List (List Key × Addr × Value)), Paired tdR xs ys ∧
  ∃ o es ep, h.get? a = some o ∧ o.ExactDict ∧ o.data = .dict es ep ∧ es.toList = ys.map (entryOfKey (tupleKind (mixKind P w))) ∧ (ys.map (·.1)).Nodup
inductive RTs (K : PySem.W.Frag) (H : Hp) : List (D × D) → List (List Int × Addr × V) → Prop
  | nil : RTs K H [] []
  | cons {ks : List Int} {b : Addr} {d : D} {v : V} {l : List (D × D)} {xs : List (List Int × Addr × V)} : TpS K H b (ks.map V.int) → RV K H d v → RTs K H l xs → RTs K H ((tpI ks, d) :: l) ((ks, b, v) :: xs)
/-- an object -/
def RO (K : PySem.W.Frag) (H : Hp) (a : Nat) : AO → Prop
  | .lst l => ∃ vs, H a = some (.lst vs) ∧ RVs K H l vs
  | .dic l => ∃ kv, H a = some (.dK kv) ∧ RKs K H l kv
  | .dit l => ∃ xs, H a = some (.ext (tdφ a xs)) ∧ ((a == sysModules) = false ∧ xs.length ≤ sizeLine) ∧ RTs K H l xs
  | .ins _ _ => False
def RepS (K : PySem.W.Frag) (S : Sto) (H : Hp) : Prop := ∀ a o, S a = some o → RO K H a o
/-- what went by -/
structure Ext (S : Sto) (H : Hp) (S' : Sto) (H' : Hp) : Prop where
  keep : ∀ a o, S a = none → H a = some o → H' a = some o
  away : ∀ a, S a = none → H a ≠ none → S' a = none

variable {K : PySem.W.Frag} {S S' S1 S2 : Sto} {H H' H1 H2 : Hp}
theorem Ext.refl : Ext S H S H := ⟨fun _ _ _ e => e, fun _ e _ => e⟩
theorem Ext.trans (a : Ext S H S1 H1) (b : Ext S1 H1 S2 H2) : Ext S H S2 H2 := by
  refine ⟨fun c o n e => ?_, fun c n e => ?_⟩
  · exact b.keep c o (a.away c n (by rw [e]; simp)) (a.keep c o n e)
  · cases h : H c with
    | none => exact absurd h e
    | some o => exact b.away c (a.away c n e) (by rw [a.keep c o n h]; simp)
theorem RepS.ne (r : RepS K S H) {a : Nat} (h : H a = none) : S a = none := by
  cases e : S a with
  | none => rfl
  | some o =>
    have q := r a o e
    cases o with
    | lst l => obtain ⟨vs, z, _⟩ := q; rw [h] at z; cases z
    | dic l => obtain ⟨vs, z, _⟩ := q; rw [h] at z; cases z
    | dit l => obtain ⟨vs, z, _⟩ := q; rw [h] at z; cases z
    | ins c f => exact q.elim
theorem RepS.tup (r : RepS K S H) {a : Nat} {xs : List V} (h : H a = some (.tup xs)) : S a = none := by
  cases e : S a with
  | none => rfl
  | some o =>
    have q := r a o e
    cases o with
    | lst l => obtain ⟨vs, z, _⟩ := q; rw [h] at z; cases z
    | dic l => obtain ⟨vs, z, _⟩ := q; rw [h] at z; cases z
    | dit l => obtain ⟨vs, z, _⟩ := q; rw [h] at z; cases z
    | ins c f => exact q.elim
theorem RepS.frz (r : RepS K S H) {a : Nat} {o : Obj} {u : HO} (h : H a = some (.frz o u)) : S a = none := by
  cases e : S a with
  | none => rfl
  | some o =>
    have q := r a o e
    cases o with
    | lst l => obtain ⟨vs, z, _⟩ := q; rw [h] at z; cases z
    | dic l => obtain ⟨vs, z, _⟩ := q; rw [h] at z; cases z
    | dit l => obtain ⟨vs, z, _⟩ := q; rw [h] at z; cases z
    | ins c f => exact q.elim
/-- the tuples and the locked things stay -/
structure Stay (H H' : Hp) : Prop where
  tup : ∀ a xs, H a = some (.tup xs) → H' a = some (.tup xs)
  frz : ∀ a o u, H a = some (.frz o u) → H' a = some (.frz o u)
theorem Stay.refl : Stay H H := ⟨fun _ _ e => e, fun _ _ _ e => e⟩
theorem Stay.trans (a : Stay H H1) (b : Stay H1 H2) : Stay H H2 := ⟨fun c xs e => b.tup c xs (a.tup c xs e), fun c o u e => b.frz c o u (a.frz c o u e)⟩
theorem Ext.stay (r : RepS K S H) (x : Ext S H S' H') : Stay H H' := ⟨fun a xs h => x.keep a _ (r.tup h) h, fun a o u h => x.keep a _ (r.frz h) h⟩
theorem Stay.sqT (st : Stay H H') {a : Addr} {xs : List V} (h : SqT K H a xs) : SqT K H' a xs := by
  rcases h with (h | ⟨o, h⟩) | h
  · exact .inl (.inl (st.tup _ _ h))
  · exact .inl (.inr ⟨o, st.frz _ _ _ h⟩)
  · exact .inr h
theorem Stay.fzL (st : Stay H H') {a : Addr} {xs : List V} (h : FzL K H a xs) : FzL K H' a xs := by
  rcases h with ⟨o, h⟩ | h
  · exact .inl ⟨o, st.frz _ _ _ h⟩
  · exact .inr h
theorem Stay.tpS (st : Stay H H') {a : Addr} {xs : List V} (h : TpS K H a xs) : TpS K H' a xs := by
  rcases h with ⟨o, h, hd⟩ | h
  · exact .inl ⟨o, st.frz _ _ _ h, hd⟩
  · exact .inr h
theorem TpS.sq {a : Addr} {xs : List V} (h : TpS K H a xs) : SqT K H a xs := by
  rcases h with ⟨o, h, _⟩ | ⟨o, its, n, h1, h2, _, h3⟩
  · exact .inl (.inr ⟨o, h⟩)
  · exact .inr ⟨o, its, n, h1, h2, h3⟩
theorem FzL.sq {a : Addr} {xs : List V} (h : FzL K H a xs) : SqL K H a xs := by
  rcases h with ⟨o, h⟩ | h
  · exact .inl (.inr ⟨o, h⟩)
  · exact .inr h
mutual
theorem RV.mono (st : Stay H H') : ∀ {d : D} {v : V}, RV K H d v → RV K H' d v
  | _, _, .non => .non
  | _, _, .bl b => .bl b
  | _, _, .int i => .int i
  | _, _, .str s => .str s
  | _, _, .tup h r => .tup (st.tpS h) (RVs.mono st r)
  | _, _, .tpu h r => .tpu (st.sqT h) (RVs.mono st r)
  | _, _, .fz h r => .fz (st.fzL h) (RVs.mono st r)
  | _, _, .ref a => .ref a
theorem RVs.mono (st : Stay H H') : ∀ {d : List D} {v : List V}, RVs K H d v → RVs K H' d v
  | _, _, .nil => .nil
  | _, _, .cons r t => .cons (RV.mono st r) (RVs.mono st t)
end
theorem RKs.mono (st : Stay H H') {l : List (D × D)} {kv : List (Key × V)} (h : RKs K H l kv) : RKs K H' l kv := by
  induction h with
  | nil => exact .nil
  | cons k r _ ih => exact .cons k (r.mono st) ih
theorem RTs.mono (st : Stay H H') {l : List (D × D)} {xs : List (List Int × Addr × V)} (h : RTs K H l xs) : RTs K H' l xs := by
  induction h with
  | nil => exact .nil
  | cons k r _ ih => exact .cons (st.tpS k) (r.mono st) ih
theorem RVs.len : ∀ {d : List D} {v : List V}, RVs K H d v → d.length = v.length
  | _, _, .nil => rfl
  | _, _, .cons _ t => congrArg Nat.succ (RVs.len t)
theorem RVs.get : ∀ {d : List D} {v : List V} {i : Nat} {x : D}, RVs K H d v → d[i]? = some x → ∃ y, v[i]? = some y ∧ RV K H x y
  | _, _, _, _, .nil, e => by simp at e
  | _, _, 0, _, .cons r _, e => by simp at e; subst e; exact ⟨_, rfl, r⟩
  | _, _, i + 1, x, .cons _ t, e => by
    obtain ⟨y, h1, h2⟩ := RVs.get (i := i) (x := x) t (by simpa using e)
    exact ⟨y, by simpa using h1, h2⟩
theorem RVs.app : ∀ {d d' : List D} {v v' : List V}, RVs K H d v → RVs K H d' v' → RVs K H (d ++ d') (v ++ v')
  | _, _, _, _, .nil, s => s
  | _, _, _, _, .cons r t, s => .cons r (RVs.app t s)
theorem RVs.take : ∀ {d : List D} {v : List V} (n : Nat), RVs K H d v → RVs K H (d.take n) (v.take n)
  | _, _, 0, _ => .nil
  | _, _, _ + 1, .nil => .nil
  | _, _, n + 1, .cons r t => .cons r (RVs.take n t)
theorem RVs.drop : ∀ {d : List D} {v : List V} (n : Nat), RVs K H d v → RVs K H (d.drop n) (v.drop n)
  | _, _, 0, r => r
  | _, _, _ + 1, .nil => .nil
  | _, _, n + 1, .cons _ t => RVs.drop n t
theorem RVs.set {x : D} {y : V} (r : RV K H x y) : ∀ {d : List D} {v : List V} (i : Nat), RVs K H d v → RVs K H (d.set i x) (v.set i y)
  | _, _, _, .nil => .nil
  | _, _, 0, .cons _ t => .cons r t
  | _, _, i + 1, .cons q t => .cons q (RVs.set r i t)
theorem RVs.erase : ∀ {d : List D} {v : List V} (i : Nat), RVs K H d v → RVs K H (d.eraseIdx i) (v.eraseIdx i)
  | _, _, _, .nil => .nil
  | _, _, 0, .cons _ t => t
  | _, _, i + 1, .cons q t => .cons q (RVs.erase i t)
theorem RVs.ints : ∀ {d : List D} {v : List V} {z : List Int}, RVs K H d v → ints? d = some z → v = z.map V.int
  | _, _, z, .nil, e => by
    have e' : some ([] : List Int) = some z := e
    cases e'; rfl
  | _, _, z, .cons (d := x) (ds := ds) r t, e => by
    cases r with
    | int i =>
      have e' : (ints? ds).map (i :: ·) = some z := e
      cases h : ints? ds with
      | none => rw [h] at e'; cases e'
      | some y =>
        rw [h] at e'
        cases e'
        rw [RVs.ints t h]; rfl
    | _ => cases e
/-- the store with an object more, or changed -/
theorem RO.mono (st : Stay H H') {a : Nat} {o : AO} (hk : ∀ u, H a = some u → H' a = some u) (h : RO K H a o) : RO K H' a o := by
  cases o with
  | lst l => obtain ⟨vs, e, r⟩ := h; exact ⟨vs, hk _ e, r.mono st⟩
  | dic l => obtain ⟨kv, e, r⟩ := h; exact ⟨kv, hk _ e, r.mono st⟩
  | dit l => obtain ⟨kv, e, z, r⟩ := h; exact ⟨kv, hk _ e, z, r.mono st⟩
  | ins c f => exact h.elim
theorem stay_new {p : Nat} {u : HO} (hp : H p = none) : Stay H (L2.upd H p u) :=
  ⟨fun a xs e => by rw [L2.upd_ne (L2.ne_of_none e hp)]; exact e, fun a o w e => by rw [L2.upd_ne (L2.ne_of_none e hp)]; exact e⟩
theorem stay_old {p : Nat} {u w : HO} (hp : H p = some w) (m : Mut (some w)) : Stay H (L2.upd H p u) := by
  refine ⟨fun a xs e => ?_, fun a o z e => ?_⟩
  · rw [L2.upd_ne (L2.ne_of e hp (by rintro rfl; exact m))]; exact e
  · rw [L2.upd_ne (L2.ne_of e hp (by rintro rfl; exact m))]; exact e
/-- an object unknown to the store is made -/
theorem RepS.free (r : RepS K S H) {p : Nat} {u : HO} (hp : H p = none) : RepS K S (L2.upd H p u) := fun a o e =>
  (r a o e).mono (stay_new hp) fun w q => by rw [L2.upd_ne (L2.ne_of_none q hp)]; exact q
theorem Ext.free (r : RepS K S H) {p : Nat} {u : HO} (hp : H p = none) : Ext S H S (L2.upd H p u) :=
  ⟨fun a o _ e => by rw [L2.upd_ne (L2.ne_of_none e hp)]; exact e, fun a n _ => n⟩
theorem put_same {p : Nat} {o : AO} : put S p o p = some o := by unfold put; rw [if_pos rfl]
theorem put_ne {p q : Nat} {o : AO} (h : q ≠ p) : put S p o q = S q := by unfold put; rw [if_neg h]
/-- a known object is made -/
theorem RepS.made (r : RepS K S H) {p : Nat} {u : HO} {o : AO} (hp : H p = none) (ho : RO K (L2.upd H p u) p o) : RepS K (put S p o) (L2.upd H p u) := fun a q e => by
  by_cases h : a = p
  · subst h; rw [put_same] at e; cases e; exact ho
  · rw [put_ne h] at e; exact r.free hp a q e
theorem Ext.made (r : RepS K S H) {p : Nat} {u : HO} {o : AO} (hp : H p = none) : Ext S H (put S p o) (L2.upd H p u) :=
  ⟨fun a w _ e => by rw [L2.upd_ne (L2.ne_of_none e hp)]; exact e, fun a n e => by
    rw [put_ne (by rintro rfl; exact e hp)]; exact n⟩
/-- a known object is changed -/
theorem RepS.wrote (r : RepS K S H) {p : Nat} {u w : HO} {o o' : AO} (hS : S p = some o') (hp : H p = some w) (m : Mut (some w)) (ho : RO K (L2.upd H p u) p o) : RepS K (put S p o) (L2.upd H p u) := fun a q e => by
  by_cases h : a = p
  · subst h; rw [put_same] at e; cases e; exact ho
  · rw [put_ne h] at e
    exact (r a q e).mono (stay_old hp m) fun w q => by rw [L2.upd_ne h]; exact q
theorem Ext.wrote {p : Nat} {u w : HO} {o o' : AO} (hS : S p = some o') (hp : H p = some w) : Ext S H (put S p o) (L2.upd H p u) :=
  ⟨fun a z n e => by
    rw [L2.upd_ne (by rintro rfl; rw [hS] at n; cases n)]; exact e, fun a n _ => by
    rw [put_ne (by rintro rfl; rw [hS] at n; cases n)]; exact n⟩
theorem RepS.sub (r : RepS K S H) (s : Sub S' S) : RepS K S' H := fun a o e => r a o (s a o e)
theorem Ext.sub {T : Sto} (x : Ext S H S' H') (s : Sub T S') : Ext S H T H' := ⟨x.keep, fun a n e => by
  cases q : T a with
  | none => rfl
  | some o => have z := s a o q; rw [x.away a n e] at z; cases z⟩
end Ev
set_option Elab.async false
set_option linter.all false
set_option maxRecDepth 100000
set_option maxHeartbeats 1000000
/-! EvB2: operators on plain data are the machine's. -/
namespace Ev
open PySem PySem.Spec PyProof.Rows L2

theorem line_eq : line = sizeLine := by rw [sizeLine_eq]; rfl
theorem band_eq (x y : Int) : band x y = Builtin.bitAnd x y := by
  unfold band Builtin.bitAnd bnot Builtin.bitNot
  by_cases hx : 0 ≤ x <;> by_cases hy : 0 ≤ y <;> simp [hx, hy]
theorem bor_eq (x y : Int) : bor x y = Builtin.bitOr x y := by
  unfold bor Builtin.bitOr
  rw [band_eq]; rfl
theorem bxor_eq (x y : Int) : bxor x y = Builtin.bitXor x y := by
  unfold bxor Builtin.bitXor
  rw [band_eq, bor_eq]
theorem ixn_eq (n : Nat) (i : Int) : ixn n i = ixN n i := by
  unfold ixn ixN
  by_cases h : 0 ≤ i
  · rw [if_pos h, if_pos h]; rfl
  · rw [if_neg h, if_neg h]
    have e : (0 ≤ i + Int.ofNat n) ↔ -(n : Int) ≤ i := by
      show (0 ≤ i + (n : Int)) ↔ _
      omega
    by_cases q : -(n : Int) ≤ i
    · rw [if_pos q, if_pos (e.mpr q)]; rfl
    · rw [if_neg q, if_neg (fun z => q (e.mp z))]
theorem six_eq (n d : Nat) (o : Option Int) : six n d o = HT.sIx n d o := by
  cases o <;> rfl

section
variable {K : PySem.W.Frag} {S S' : Sto} {H H' : Hp}
theorem RVs.nth {d : List D} {v : List V} {i : Int} {x : D} (r : RVs K H d v) (e : Ev.nth d i = some x) : ∃ y, atI v i = some y ∧ RV K H x y := by
  unfold Ev.nth at e
  unfold atI
  rw [ixn_eq, r.len] at e
  cases h : ixN v.length i with
  | none => rw [h] at e; cases e
  | some j =>
    rw [h] at e
    exact r.get (show d[j]? = some x from e)
theorem RVs.cut {d : List D} {v : List V} (r : RVs K H d v) (lo hi : Option Int) : RVs K H (Ev.cut d lo hi) (cutV v lo hi) := by
  unfold Ev.cut cutV
  rw [six_eq, six_eq, r.len]
  exact (r.drop _).take _

/-! ### data compared -/
mutual
def pd : D → PyData
  | .non => .none
  | .bl b => .bool b
  | .int i => .int i
  | .str s => .str s
  | .tup l => .tuple (pds l)
  | .tpu l => .none
  | .fz l => .list (pds l)
  | .ref _ => .none
def pds : List D → List PyData
  | [] => []
  | d :: r => pd d :: pds r
end
theorem fin_cons {n : Nat} {d : D} {l : List D} (h : (d :: l).all (fin n) = true) : fin n d = true ∧ l.all (fin n) = true := by
  rw [List.all_cons, Bool.and_eq_true] at h
  exact h
theorem strok_ok {s : Str} (h : strok s = true) : PyData.strOk s = true := h
mutual
theorem fin_dp : ∀ {n : Nat} {d : D} {v : V}, RV K H d v → fin n d = true → Dp K H v (pd d)
  | _, _, _, .non, _ => by rw [pd]; exact .non
  | _, _, _, .bl b, _ => by rw [pd]; exact .bl b
  | _, _, _, .int i, _ => by rw [pd]; exact .int i
  | _, _, _, .str s, _ => by rw [pd]; exact .str s
  | 0, _, _, .tup h r, f => by simp [fin] at f
  | n + 1, _, _, .tup h r, f => by
    rw [pd]
    exact .tup h.sq (fin_dps r (by simpa only [fin] using f))
  | 0, _, _, .fz h r, f => by simp [fin] at f
  | n + 1, _, _, .fz h r, f => by
    rw [pd]
    exact .lst h.sq (fin_dps r (by simpa only [fin] using f))
  | n, _, _, .ref a, f => by cases n <;> simp [fin] at f
  | n, _, _, .tpu _ _, f => by cases n <;> simp [fin] at f
theorem fin_dps : ∀ {n : Nat} {l : List D} {vs : List V}, RVs K H l vs → l.all (fin n) = true → DpAll K H vs (pds l)
  | _, _, _, .nil, _ => by rw [pds]; exact .nil
  | n, _, _, .cons r t, f => by
    rw [pds]
    exact .cons (fin_dp r (fin_cons f).1) (fin_dps t (fin_cons f).2)
end
mutual
theorem fin_lay : ∀ {n : Nat} {d : D}, fin n d = true → (pd d).canLay0 = true ∧ (pd d).depth ≤ n
  | n, .non, _ => by simp [pd, PyData.canLay0, PyData.depth]
  | n, .bl b, _ => by simp [pd, PyData.canLay0, PyData.depth]
  | n, .int i, _ => by simp [pd, PyData.canLay0, PyData.depth]
  | n, .str s, f => by
    have f' : strok s = true := by cases n <;> simpa only [fin] using f
    simp only [pd, PyData.canLay0, PyData.depth]
    exact ⟨f', Nat.zero_le _⟩
  | 0, .tup l, f => by simp [fin] at f
  | n + 1, .tup l, f => by
    obtain ⟨h1, h2⟩ := fin_lays (n := n) (l := l) (by simpa only [fin] using f)
    simp only [pd, PyData.canLay0, PyData.depth]
    exact ⟨h1, by omega⟩
  | 0, .fz l, f => by simp [fin] at f
  | n + 1, .fz l, f => by
    obtain ⟨h1, h2⟩ := fin_lays (n := n) (l := l) (by simpa only [fin] using f)
    simp only [pd, PyData.canLay0, PyData.depth]
    exact ⟨h1, by omega⟩
  | n, .ref a, f => by cases n <;> simp [fin] at f
  | n, .tpu _, f => by cases n <;> simp [fin] at f
theorem fin_lays : ∀ {n : Nat} {l : List D}, l.all (fin n) = true → PyData.canLayAll0 (pds l) = true ∧ PyData.depthAll (pds l) ≤ n
  | n, [], _ => by simp [pds, PyData.canLayAll0, PyData.depthAll]
  | n, d :: l, f => by
    obtain ⟨a1, a2⟩ := fin_lay (fin_cons f).1
    obtain ⟨b1, b2⟩ := fin_lays (fin_cons f).2
    simp only [pds, PyData.canLayAll0, PyData.depthAll, Bool.and_eq_true]
    exact ⟨⟨a1, b1⟩, by omega⟩
end
theorem fin_shaped {d : D} (f : fin 12 d = true) : SeqAt.shaped (pd d) = true := by
  obtain ⟨h1, h2⟩ := fin_lay f
  unfold SeqAt.shaped
  rw [Bool.and_eq_true, decide_eq_true_eq]
  exact ⟨h1, by omega⟩
theorem fin_shapedL {l : List D} (f : l.all (fin 12) = true) : SeqAt.shaped (.list (pds l)) = true := by
  obtain ⟨h1, h2⟩ := fin_lays f
  unfold SeqAt.shaped
  rw [Bool.and_eq_true, decide_eq_true_eq]
  simp only [PyData.canLay0, PyData.depth]
  exact ⟨h1, by omega⟩
theorem fin_shapedT {l : List D} (f : l.all (fin 12) = true) : SeqAt.shaped (.tuple (pds l)) = true := by
  obtain ⟨h1, h2⟩ := fin_lays f
  unfold SeqAt.shaped
  rw [Bool.and_eq_true, decide_eq_true_eq]
  simp only [PyData.canLay0, PyData.depth]
  exact ⟨h1, by omega⟩
mutual
theorem eqF_eqv : ∀ {n : Nat} {a b : D}, fin n a = true → fin n b = true → PyData.eqv (pd a) (pd b) = eqF n a b
  | n, .non, b, _, fb => by cases b <;> cases n <;> first | (simp [fin] at fb; done) | simp [pd, PyData.eqv, eqF]
  | n, .bl x, b, _, fb => by cases b <;> cases n <;> first | (simp [fin] at fb; done) | simp [pd, PyData.eqv, eqF, b2]
  | n, .int x, b, _, fb => by cases b <;> cases n <;> first | (simp [fin] at fb; done) | simp [pd, PyData.eqv, eqF, b2]
  | n, .str x, b, _, fb => by
    cases b with
    | str y =>
      have e : (x == y) = decide (x = y) := by rw [Bool.eq_iff_iff]; simp
      cases n <;> simp only [pd, PyData.eqv, eqF, e]
    | _ => cases n <;> first | (simp [fin] at fb; done) | simp [pd, PyData.eqv, eqF]
  | 0, .tup l, b, fa, _ => by simp [fin] at fa
  | n + 1, .tup l, b, fa, fb => by
    cases b with
    | tup m =>
      simp only [pd, PyData.eqv, eqF]
      exact eqFs_eqv (by simpa only [fin] using fa) (by simpa only [fin] using fb)
    | _ => first | (simp [fin] at fb; done) | simp [pd, PyData.eqv, eqF]
  | 0, .fz l, b, fa, _ => by simp [fin] at fa
  | n + 1, .fz l, b, fa, fb => by
    cases b with
    | fz m =>
      simp only [pd, PyData.eqv, eqF]
      exact eqFs_eqv (by simpa only [fin] using fa) (by simpa only [fin] using fb)
    | _ => first | (simp [fin] at fb; done) | simp [pd, PyData.eqv, eqF]
  | n, .ref x, b, fa, _ => by cases n <;> simp [fin] at fa
  | n, .tpu x, b, fa, _ => by cases n <;> simp [fin] at fa
theorem eqFs_eqv : ∀ {n : Nat} {a b : List D}, a.all (fin n) = true → b.all (fin n) = true → PyData.eqvAll (pds a) (pds b) = allF (eqF n) a b
  | n, [], [], _, _ => by simp [pds, PyData.eqvAll, allF]
  | n, [], _ :: _, _, _ => by simp [pds, PyData.eqvAll, allF]
  | n, _ :: _, [], _, _ => by simp [pds, PyData.eqvAll, allF]
  | n, x :: a, y :: b, fa, fb => by
    simp only [pds, PyData.eqvAll, allF]
    rw [eqF_eqv (fin_cons fa).1 (fin_cons fb).1, eqFs_eqv (fin_cons fa).2 (fin_cons fb).2]
end
end
end Ev
set_option Elab.async false
set_option linter.all false
set_option maxRecDepth 100000
set_option maxHeartbeats 4000000
/-! EvTn: tuples as they are made: without a dict. -/
namespace Ev
open PySem PySem.Spec PyProof.Rows L2
/-- a new tuple's object -/
abbrev tob (its : List Value) : Obj := { cls := .type "tuple", data := .seq its.toArray }
/-- what is wanted of a new tuple -/
def NewT (H : Hp) (xs : List V) (Q : VK) : Prop := ∀ p o, H p = none → Obj.dict o = none → Q (.ref p) (L2.upd H p (.frz o (.tup xs)))
section
variable {X : Cx} {pins : List (Addr × Obj)} {σ : L2.St} {H : Hp} {s : Shared} {Q : VK}
theorem laid_tup {xs : List V} {its : List Value} (t' : Nat) (I : Inv X pins σ H s) (r : Vals xs its) (hz : xs.length ≤ sizeLine) (q : NewT H xs Q) :
    EP X pins σ Q (.ref s.heap.objs.size) { s with heap := s.heap.push (tob its), toks := t' } := by
  have e : (s.heap.push (tob its)).get? s.heap.objs.size = some (tob its) := Heap.get?_push_size _ rfl
  have new : ObjOk X.prog X.w (L2.upd H s.heap.objs.size (.frz (tob its) (.tup xs))) (s.heap.push (tob its)) s.heap.objs.size (.frz (tob its) (.tup xs)) := ⟨e, hz, its, r, _, e, rfl, _, rfl⟩
  exact ⟨.ref s.heap.objs.size, _, I.laid (t' := t') (fun b u q => Heap.get?_push_of_some _ q) (Nat.le_refl _) new, rfl, q _ _ (I.hok.fresh (Nat.le_refl _)) rfl⟩
end
section
variable {X : Cx} {es : List Expr} {t : TA} {pos : Pos}
def tTupN (t : TA) : TE := fun σ H Q => t σ H fun xs G => xs.length ≤ sizeLine ∧ NewT G xs Q
theorem pe_tupN {c} (h : PA X es t) : PE X (.Tuple es c pos) (tTupN t) :=
  ⟨fun pins s σ H Q I w => wpAny_Tuple_spliced (thn (h.run pos pins s σ H _ I w) fun us s1 ⟨xs, G, J, r, z, q⟩ => ⟨by rw [← r.length]; exact z, laid_tup s1.toks J r z q⟩)⟩
/-- t + u -/
def rCatN (K : PySem.W.Frag) : R2 := fun x y H Q => ∃ a b xs ys, x = .ref a ∧ y = .ref b ∧ SqT K H a xs ∧ SqT K H b ys ∧ xs.length + ys.length ≤ sizeLine ∧
  (xs = [] → Q (.ref b) H) ∧ (xs ≠ [] → ys = [] → Q (.ref a) H) ∧ NewT H (xs ++ ys) Q
theorem op_catN : OpR X (binaryOp .Add) (rCatN X.K) := by
  rintro pins s σ H _ _ v u Q I rx ry ⟨a, b, xs, ys, rfl, rfl, ha, hb, hz, q0, q1, q2⟩
  cases rx
  cases ry
  obtain ⟨its, r1, p1, _⟩ := I.tuple ha
  obtain ⟨its2, r2, p2, _⟩ := I.tuple hb
  cases r1 with
  | nil => exact cat_tup0 p1 p2 ⟨.ref b, H, I, rfl, q0 rfl⟩
  | cons ra rr =>
    have r1 : Vals (_ :: _) (_ :: _) := .cons ra rr
    refine HT.cat_tup p1 p2 (fun z => nomatch z) (fun z => ⟨.ref a, H, I, rfl, q1 (fun z => nomatch z) ?_⟩) (fun z => ?_) (by rw [← r1.length, ← r2.length]; exact hz)
    · subst z; cases r2; rfl
    · exact laid_tup s.toks I (r1.append r2) (by rw [List.length_append]; exact hz) q2
/-- t[lo:hi] -/
def rSlN (K : PySem.W.Frag) : V → Option Int → Option Int → Hp → VK → Prop := fun x lo hi H Q => ∃ a xs, x = .ref a ∧ SqT K H a xs ∧
  (HT.sIx xs.length 0 lo = 0 ∧ HT.sIx xs.length xs.length hi = xs.length → Q (.ref a) H) ∧ NewT H (cutV xs lo hi) Q
theorem sl_tupN : SlR X (rSlN X.K) := by
  rintro pins s σ H _ v vl vu lo hi sl Q I rx hs pl pu ⟨a, xs, rfl, hx, q1, q2⟩
  cases rx
  obtain ⟨its, r, ht, hz⟩ := I.tuple hx
  have hlen : its.toArray.size = xs.length := by rw [List.size_toArray]; exact r.length.symm
  refine ⟨"tuple", _, PyProof.Rows.slot_tuple_getitem.lookup, ht.typeIs, ?_⟩
  by_cases hw : HT.sIx xs.length 0 lo = 0 ∧ HT.sIx xs.length xs.length hi = xs.length
  · exact getItem_tuple_whole ht hs pl pu (by rw [hlen]; exact hw) ⟨.ref a, H, I, rfl, q1 hw⟩
  · refine HT.getItem_tuple_cut ht hs pl pu (by rw [hlen]; exact hw) ?_ (by rw [hlen]; exact hz)
    rw [hlen]
    exact laid_tup s.toks I ((r.drop (HT.sIx xs.length 0 lo)).take (HT.sIx xs.length xs.length hi - HT.sIx xs.length 0 lo)) (Nat.le_trans (cutV_length xs lo hi) hz) q2
/-- tuple(x) -/
theorem call_tupN : CallR X (.type "tuple") (fun xs H Q => ∃ p ys, xs = [.ref p] ∧ ((SqL X.K H p ys ∧ NewT H ys Q) ∨ (SqT X.K H p ys ∧ Q (.ref p) H))) := by
  rintro pins s σ H _ us Q I r ⟨p, ys, rfl, h⟩
  obtain ⟨u, rfl, rx⟩ := vals1 r
  cases rx
  rcases h with ⟨hq, q⟩ | ⟨hq, q⟩
  · obtain ⟨its, r', pl, hz⟩ := I.list hq
    have hlen := r'.length
    refine call_tuple_list pl.isList (fun h' kp => ?_) (by simp only [List.size_toArray] <;> omega)
    exact laid_tup s.toks (I.kept (t' := s.toks) kp) r' hz q
  · obtain ⟨its, r', pl, hz⟩ := I.tuple hq
    exact call_tuple_same pl ⟨.ref p, H, I, rfl, q⟩
/-- t * k -/
def rRepN (K : PySem.W.Frag) : R2 := fun x y H Q => ∃ l k xs, x = .ref l ∧ y = .int k ∧ SqT K H l xs ∧ -1000 ≤ k ∧ k ≤ 1000 ∧ xs.length ≤ 1000 ∧ (xs = [] ∨ k = 1 → Q x H) ∧ NewT H (List.replicate k.toNat xs).flatten Q
theorem op_repN : OpR X (binaryOp .Mult) (rRepN X.K) := by
  rintro pins s σ H _ _ v u Q I rx ry ⟨l, k, xs, rfl, rfl, hT, h1, h2, hz, q0, q⟩
  cases rx
  obtain ⟨t, rfl⟩ := ry
  obtain ⟨its, r, ⟨⟨cls, dd, data, sl⟩, ho, hc, n, hd⟩, _⟩ := I.tuple hT
  simp only at hc hd
  subst hc hd
  have hle : its.length = xs.length := r.length.symm
  have c0 : (decide (k < -(2 ^ 63)) || decide (k ≥ 2 ^ 63)) = false := by
    rw [decide_eq_false (by omega), decide_eq_false (by omega)] <;> rfl
  refine wpAny_binaryOp_repeat_ref (T := "tuple") (U := "int") (by decide) ⟨_, ho, rfl⟩ (fun s' => typeIs_int s' k t) noFill_tuple_mul F.fills_int_mul F.slot_int_rmul repeat_tuple F.slot_int_index.lookup
    (call_meets F.slot_int_rmul (typeIs_int s k t) F.entry_int_rmul (F.args_int_rmul_2 _ _) (int_rmul_tuple k t l its.toArray n dd sl) ⟨ho, rfl, ⟨_, ho, rfl⟩, ?_⟩)
  by_cases h1e : xs = [] ∨ k = 1
  · have c1 : (its.toArray.isEmpty || k == 1) = true := by
      rcases h1e with rfl | rfl
      · cases r; rfl
      · rw [Bool.or_eq_true]; exact .inr rfl
    exact call_meets F.slot_tuple_mul ⟨_, ho, rfl⟩ F.entry_tuple_mul (F.args_tuple_mul_2 _ _) (tuple_mulE l its.toArray n dd sl k t c0 c1) ⟨ho, .ref l, _, I, rfl, q0 h1e⟩
  have hx : xs ≠ [] := fun z => h1e (.inl z)
  have hk : k ≠ 1 := fun z => h1e (.inr z)
  have hi : its.toArray.isEmpty = false := by
    cases its with
    | nil => cases r; exact absurd rfl hx
    | cons a b => rfl
  have c1 : (its.toArray.isEmpty || k == 1) = false := by
    rw [hi, Bool.false_or]; exact beq_eq_false_iff_ne.mpr hk
  by_cases hk0 : k ≤ 0
  · have c2 : (decide (k ≤ 0) || its.toArray.isEmpty) = true := by rw [decide_eq_true hk0]; rfl
    have e : (List.replicate k.toNat xs).flatten = [] := by
      have : k.toNat = 0 := by omega
      rw [this]; rfl
    rw [e] at q
    exact call_meets F.slot_tuple_mul ⟨_, ho, rfl⟩ F.entry_tuple_mul (F.args_tuple_mul_2 _ _) (tuple_mul0 l its.toArray n dd sl k t c0 c1 c2) ⟨ho, laid_tup s.toks I .nil (Nat.zero_le _) q⟩
  have hsz : its.toArray.size = xs.length := by rw [List.size_toArray, hle]
  have hm : ((its.toArray.size : Nat) : Int) * k ≤ 1000000 := by
    rw [hsz]
    have a1 : ((xs.length : Nat) : Int) * k ≤ 1000 * k := Int.mul_le_mul_of_nonneg_right (by omega) (by omega)
    omega
  have flen : ∀ {α : Type} (m : List α), m.length = xs.length → (List.replicate k.toNat m).flatten.length ≤ sizeLine := fun m e => by
    rw [PyProof.Rows.lm_len_rep_flat, e, sizeLine_eq]
    have a1 : k.toNat * xs.length ≤ 1000 * 1000 := Nat.mul_le_mul (by omega) hz
    omega
  have c2 : (decide (k ≤ 0) || its.toArray.isEmpty) = false := by
    rw [hi, Bool.or_false]; exact decide_eq_false hk0
  have c4 : Builtin.Tuple.tupleTooMany (((its.toArray.size : Nat) : Int) * k) = false := by
    unfold Builtin.Tuple.tupleTooMany
    rw [sizeLine_eq]; exact decide_eq_false (by omega)
  refine call_meets F.slot_tuple_mul ⟨_, ho, rfl⟩ F.entry_tuple_mul (F.args_tuple_mul_2 _ _) (tuple_mulW l its.toArray n dd sl k t c0 c1 c2 (by omega) c4 (by rw [size_rep, List.size_toArray]; exact flen its hle)) ⟨ho, ?_⟩
  rw [size_rep]
  exact laid_tup s.toks I (r.rep k.toNat) (flen xs rfl) q
/-- tuple(range(..)) -/
def tTupRgN (te : L2.St → Hp → (Int → Int → Hp → Prop) → Prop) : TE := fun σ H Q => te σ H fun a b G => RgOk a b ∧ NewT G (rgV a b) Q
theorem pe_tupRgN {e : Expr} {te : L2.St → Hp → (Int → Int → Hp → Prop) → Prop} {p : Pos} (hc : X.calm = true) (hg : Gl X "tuple") (hm : X.mg "tuple" = none) (he : PRg X e te) (na : starEach [e] X.env = (false, eval e X.env) :: starEach [] X.env) : PE X (.Call (.Name "tuple" p) [e] [] pos) (tTupRgN te) := by
  refine ⟨fun pins s σ H Q I w => ?_⟩
  refine Call_ (ld_blt I hg hm boot_tuple (PyProof.Rows.callWith_type1 (args_cons (thn (he pins s σ H _ I w) fun x s1 ⟨r, a, b, t, u, v, G, ex, hr, J, ⟨b1, b2, b3, b4, b5⟩, q⟩ => args_nil ?_) na) na))
  subst ex
  refine call_tuple_range (n := (b - a).toNat) (J.ok.hd hc) hr (small_one b1 b2 b3 b4) (rangeSize_nat a b) b5 fun h' tk acc hk hi => ?_
  have e : acc = acc.toList.toArray := by simp
  rw [e]
  exact laid_tup tk (J.kept (t' := tk) hk) (vals_rg hi) (by rw [rgV_length, sizeLine_eq]; omega) q
/-! ### x[::-1] -/
section
variable {prog : Program} {w : World} {A : Around} {E : Value → Shared → Prop} {s : Shared}
theorem applied_rev {sl : Addr} {vs : Value} {n : Nat} {Q : Int × Int × Nat → Shared → Prop} (hs : s.heap.IsSliceOf sl .none .none vs) (ps : IsPart vs (some (-1))) (h : Q ((n : Int) - 1, -1, n) s) :
    wpAny (model prog w) A (Builtin.Slice.sliceApplied (.ref sl) (pure (n : Int))) Q E s := by
  obtain ⟨o, ho, hc, hd⟩ := id hs
  unfold Builtin.Slice.sliceApplied Builtin.Slice.sliceFields
  refine wpAny_bind (wpAny_bind (wpAny_field ho hd (x := .none) rfl (wpAny_bind (wpAny_field ho hd (x := .none) rfl (wpAny_bind (wpAny_field ho hd (x := vs) rfl (wpAny_pure ?_)))))))
  refine wpAny_bind (HT.slicePart_ ps ?_)
  show wpAny _ _ (if ((-1 : Int) == 0) = true then _ else _) _ _ s
  rw [if_neg (by decide)]
  refine wpAny_bind (HT.slicePart_ IsPart.none (wpAny_bind (HT.slicePart_ IsPart.none (wpAny_bind (wpAny_pure ?_)))))
  show wpAny _ _ (pure ((n : Int) - 1, (-1 : Int), Builtin.Slice.slicePlaces ((n : Int) - 1) (-1) (-1))) _ _ s
  have e : Builtin.Slice.slicePlaces ((n : Int) - 1) (-1) (-1) = n := by
    unfold Builtin.Slice.slicePlaces
    rw [if_neg (by decide)]
    by_cases hn : n = 0
    · subst hn; rfl
    · rw [if_pos (by omega)]
      have : ((n : Int) - 1 - -1 - 1) / (- -1) = (n : Int) - 1 := by
        rw [show (- -1 : Int) = 1 by rfl, Int.ediv_one]; omega
      rw [this]; omega
  rw [e]
  exact wpAny_pure h
theorem pick_rev (xs : Array Value) : ((List.range xs.size).filterMap fun (m : Nat) => xs[((xs.size : Int) - 1 + (m : Int) * -1).toNat]?).toArray = xs.toList.reverse.toArray := by
  have e : ((List.range xs.size).filterMap fun (m : Nat) => xs[((xs.size : Int) - 1 + (m : Int) * -1).toNat]?) = xs.toList.reverse := by
    have e1 : ∀ l : List Nat, (∀ m ∈ l, m < xs.size) → (l.filterMap fun (m : Nat) => xs[((xs.size : Int) - 1 + (m : Int) * -1).toNat]?) = l.map fun m => xs.toList.reverse[m]?.getD .none := fun l => by
      induction l with
      | nil => intro _; rfl
      | cons m l ih =>
        intro h
        have hm := h m List.mem_cons_self
        have e2 : ((xs.size : Int) - 1 + (m : Int) * -1).toNat = xs.size - 1 - m := by omega
        have e3 : xs[xs.size - 1 - m]? = some (xs[xs.size - 1 - m]'(by omega)) := Array.getElem?_eq_getElem (by omega)
        have e4 : xs.toList.reverse[m]? = some (xs[xs.size - 1 - m]'(by omega)) := by
          rw [List.getElem?_reverse (by rw [Array.length_toList]; exact hm), Array.length_toList, Array.getElem?_toList, e3]
        rw [List.filterMap_cons, e2, e3, List.map_cons, e4, ih fun k hk => h k (List.mem_cons_of_mem _ hk)]
        rfl
    rw [e1 _ fun m hm => List.mem_range.1 hm]
    refine List.ext_getElem? fun j => ?_
    rw [List.getElem?_map]
    by_cases hj : j < xs.size
    · rw [List.getElem?_range hj]
      have : j < xs.toList.reverse.length := by rw [List.length_reverse, Array.length_toList]; exact hj
      rw [Option.map_some, List.getElem?_eq_getElem this]; rfl
    · rw [List.getElem?_eq_none (by rw [List.length_range]; omega), List.getElem?_eq_none (by rw [List.length_reverse, Array.length_toList]; omega)]; rfl
  rw [e]
theorem getItem_tup_rev {t sl : Addr} {items : Array Value} {vs : Value} {Q : Value → Shared → Prop} (ht : IsTup s.heap t items) (hs : s.heap.IsSliceOf sl .none .none vs) (ps : IsPart vs (some (-1))) (hz : items.size ≤ sizeLine)
    (h : Q (.ref s.heap.objs.size) { s with heap := s.heap.push { cls := .type "tuple", data := .seq items.toList.reverse.toArray } }) : wpAny (model prog w) A (getItem (.ref t) (.ref sl)) Q E s := by
  obtain ⟨o, ho, hc, hd⟩ := id hs
  have hT : s.TypeIs (.ref sl) "slice" := ⟨o, ho, hc⟩
  have fits : sizeOk (.seq items.toList.reverse.toArray) := by
    show items.toList.reverse.toArray.size ≤ sizeLine
    rw [List.size_toArray, List.length_reverse, Array.length_toList]; exact hz
  unfold getItem
  try with_reducible refine wpAny_holding ?_
  first | refine wpAny_bind (wpAny_pure ?_) | skip
  refine wpAny_bind (wpAny_sequenceKey ht.typeIs (by decide) ?_)
  refine wpAny_bind (wpAny_callSpecial?_slot (name := Str.ofString "__getitem__") ht.typeIs PyProof.Rows.slot_tuple_getitem
    (wpAny_call_entry PyProof.Rows.slot_tuple_getitem ht.typeIs entry_tuple_getitem ?_ (args_tuple_getitem _ _)))
  show wpAny _ _ (Builtin.Tuple.tupleItemsOf (.ref t) >>= _) _ _ s
  refine wpAny_bind (tupleItemsOf_ ht (wpAny_bind (wpAny_typeOf hT ?_)))
  rw [if_pos (by decide)]
  refine wpAny_bind (applied_rev hs ps ?_)
  show wpAny _ _ (if ((items.size : Int) - 1 == 0 && (-1 : Int) == 1 && items.size == items.size) = true then _ else _) _ _ s
  rw [if_neg (by rw [show ((-1 : Int) == 1) = false from rfl, Bool.and_false, Bool.false_and]; exact Bool.false_ne_true), pick_rev]
  first
    | exact wpAny_bind (m := Builtin.Tuple.tupleExact _) (wpAny_newObj_type (wpAny_pure ⟨_, rfl, wpAny_pure h⟩) fits)
    | exact wpAny_bind (m := Builtin.Tuple.tupleExact _) (wpAny_newObj_type (wpAny_bind (wpAny_pure (wpAny_pure ⟨_, rfl, wpAny_pure h⟩))) fits)
end
/-- x[::-1], x a list or a tuple -/
def tRevN (K : PySem.W.Frag) (te : TE) : TE := fun σ H Q => te σ H fun x G => ∃ a xs, x = .ref a ∧ ((SqL K G a xs ∧ ∀ p, G p = none → Q (.ref p) (L2.upd G p (.lst xs.reverse))) ∨ (SqT K G a xs ∧ NewT G xs.reverse Q))
theorem pe_revN {e : Expr} {te : TE} {k : Nat} {p1 p2 p3 : Pos} (he : PE X e te) : PE X (.Subscript e (.Slice none none (some (.UnaryOp .USub (.Constant (.int 1) k p1) p2)) p3) pos) (tRevN X.K te) := by
  refine ⟨fun pins s σ H Q I w => ?_⟩
  refine Subscript_ (thn (he.run pins s σ H _ I w) fun v s1 ⟨x, G, I1, r1, a, xs, ex, alt⟩ => ?_)
  subst ex
  cases r1
  have hst : PO X (some (.UnaryOp .USub (.Constant (.int 1) k p1) p2)) (tPart (tUn (rU fun i => .int (-i)) (tC (.int 1)))) := po_some (pe_un un_neg pe_int)
  refine wpAny_Slice (thn (po_none.run pins s1 σ G (fun o H2 => o = none ∧ H2 = G) I1 ⟨rfl, rfl⟩) fun vl s2 ⟨l, H2, I2, pl, el, e2⟩ => ?_)
  subst el e2
  refine thn (po_none.run pins s2 σ H2 (fun o H3 => o = none ∧ H3 = H2) I2 ⟨rfl, rfl⟩) fun vu s3 ⟨u, H3, I3, pu, eu, e3⟩ => ?_
  subst eu e3
  refine thn (hst.run pins s3 σ H3 (fun o H4 => o = some (-1) ∧ H4 = H3) I3 ⟨1, rfl, -1, rfl, rfl, rfl⟩) fun vs s4 ⟨o, H4, I4, ps, eo, e4⟩ => ?_
  subst eo e4
  have I5 : Inv X pins σ H4 { s4 with heap := s4.heap.push { cls := .type "slice", data := .fields #[vl, vu, vs] } } := I4.kept (t' := s4.toks) fun b ob q => Heap.get?_push_of_some _ q
  show wpAny (model X.prog X.w) X.A (subscriptTail e (.Slice none none (some (.UnaryOp .USub (.Constant (.int 1) k p1) p2)) p3) (.ref a) (.ref s4.heap.objs.size)) (EP X pins σ Q) X.xe { s4 with heap := s4.heap.push { cls := .type "slice", data := .fields #[vl, vu, vs] } }
  rcases alt with ⟨hx, q⟩ | ⟨hx, q⟩
  · obtain ⟨its, r, ht, hz⟩ := I5.list hx
    have hlen := r.length
    refine tail_any (ops := [.ref a, .ref s4.heap.objs.size]) ht.isList.typeIs (PySem.slot_list_getitem.lookup) ?_ (by with_unfolding_all rfl)
    refine wpAny_getItem_list_slice ht.isList (Heap.IsSliceOf.new _ vl vu vs) pl pu ps (by decide) ?_ (by rw [List.size_toArray]; omega)
    rw [PySem.W.krv_pick]
    refine ⟨.ref _, _, I5.laid (t' := s4.toks) (o := .lst xs.reverse) (fun b ob q => Heap.get?_push_of_some _ q) (Nat.le_refl _) ?_, rfl, q _ (I5.hok.fresh (Nat.le_refl _))⟩
    exact ⟨by rw [List.length_reverse]; exact hz, _, 0, r.reverse, Heap.get?_push_size _ rfl⟩
  · obtain ⟨its, r, ht, hz⟩ := I5.tuple hx
    have hlen := r.length
    refine tail_any (ops := [.ref a, .ref s4.heap.objs.size]) ht.typeIs (PyProof.Rows.slot_tuple_getitem.lookup) ?_ (by with_unfolding_all rfl)
    cases pl
    cases pu
    refine getItem_tup_rev ht (Heap.IsSliceOf.new _ .none .none vs) ps (by rw [List.size_toArray]; omega) ?_
    exact laid_tup s4.toks I5 r.reverse (by rw [List.length_reverse]; exact hz) q
end
end Ev
set_option Elab.async false
set_option linter.all false
set_option maxRecDepth 100000
set_option maxHeartbeats 4000000
/-! EvRv: list(reversed(x)), x a list or a tuple. -/
namespace Ev
open PySem PySem.Spec PyProof.Rows L2
/-- an iterator that list() takes: at r, walking over d -/
structure ItSrc (prog : Program) (w : World) (T : String) (r d : Addr) (n : Nat) (P : Nat → Value → Prop) (St : Nat → Heap → Prop) : Prop where
  type : ∀ s : Shared, St 0 s.heap → s.TypeIs (.ref r) T
  there : ∀ h : Heap, St 0 h → r < h.objs.size ∧ d < h.objs.size
  noL : (Value.type T == Value.type "list") = false
  noT : (Value.type T == Value.type "tuple") = false
  hint : ∀ (A : Around) (E : Value → Shared → Prop) (s : Shared) (Q : Bool → Shared → Prop), St 0 s.heap → (∀ b tk, Q b { s with toks := tk }) → wpAny (model prog w) A (Builtin.List.listLengthHint (.ref r)) Q E s
  walk : ∀ A : Around, A.handled = none → Walks prog w A r [r, d] [r] n P St
section
variable {prog : Program} {w : World} {A : Around} {E : Value → Shared → Prop} {s : Shared} {T : String} {r d : Addr} {n : Nat} {P : Nat → Value → Prop} {St : Nat → Heap → Prop}
theorem it_extend {R : Result → Shared → Prop} (k : ItSrc prog w T r d n P St) (hh : A.handled = none) (ok : St 0 s.heap) (L : Addr) (hr : L ≠ r) (hd : L ≠ d) (res : Value) (c₀ : Nat) (hL : s.heap.get? L = some { cls := .type "list", data := .seq #[] c₀ })
    (hR : ∀ h' tk acc' c', (∀ b o, b ≠ L → b ≠ r → s.heap.get? b = some o → h'.get? b = some o) → h'.get? L = some { cls := .type "list", dict := none, data := .seq acc' c', slots := #[] } → ItemsOf P acc' n → R (.ok (.ret res)) { s with heap := h', toks := tk }) (hn : n ≤ sizeLine) :
    wpAny (model prog w) A.in1 (Builtin.List.listExtendWith (.ref L) (.ref r) res)
      (fun fin s' => match fin with | .done f => R (.ok f) s' | .again c' => c'.quiet = true ∧ codeAny (model prog w) A c' R s') (fun e s' => R (.error e) s') s := by
  have W := k.walk A.in1 hh
  have hf : L ∉ [r, d] := by simp only [List.mem_cons, List.not_mem_nil, or_false, not_or]; exact ⟨hr, hd⟩
  have key : ∀ (h : Heap) (c₁ tk : Nat), St 0 h → (∀ b o, b ≠ L → s.heap.get? b = some o → h.get? b = some o) →
      h.get? L = some { cls := .type "list", data := .seq #[] c₁ } → codeAny (model prog w) A (.builtin "list.extend.loop" ⟨[.ref L, .ref r, res], []⟩) R { s with heap := h, toks := tk } := by
    intro h c₁ tk hst hk h1
    refine codeAny_extend_loopS W.toS hn L hf res n 0 _ #[] c₁ rfl (Nat.zero_le _) hst h1 (ItemsOf.nil _) fun s' acc' c' hm hS' hacc => ?_
    rw [Moved.eq_with hm]
    refine hR s'.heap s'.toks acc' c' (fun b o hb hb2 e => hm.heap b o (fun hmem => ?_) (hk b o hb e)) hS' hacc
    rcases List.mem_cons.mp hmem with e' | hmem
    · exact hb e'
    · exact hb2 (List.mem_singleton.mp hmem)
  unfold Builtin.List.listExtendWith
  refine wpAny_bind (wpAny_typeOf (T := T) (k.type s ok) ?_)
  have h1 : Builtin.List.listSameRef (.ref L) (.ref r) = false := by simp [Builtin.List.listSameRef, hr]
  simp only [h1, k.noL, k.noT, Bool.or_false, Bool.false_eq_true, if_false]
  refine wpAny_bind (W.self 0 s _ _ ok ?_)
  refine wpAny_bind (wpAny_holding (k.hint _ _ _ _ ok fun b tk => ?_))
  refine wpAny_ite_split (fun _ => ?_) (fun _ => wpAny_pure ⟨plainId_quiet PySem.F.plain_extend_loop _, key _ c₀ _ ok (fun b o _ e => e) hL⟩)
  refine wpAny_bind (wpAny_rule ?_)
  refine wpAny_bind ?_
  show wpAny _ _ (updateSeq L (·.push .none) >>= fun _ => updateSeq L (·.pop)) _ _ _
  refine wpAny_bind (wpAny_updateSeq (s := { s with toks := tk }) hL rfl ?_)
  have hS₂ := Heap.get?_update_self (Obj.mapSeq (·.push Value.none)) hL rfl
  refine wpAny_updateSeq (hz := by seq_fits) hS₂ rfl ?_
  have hS₃ := Heap.get?_update_self (Obj.mapSeq (·.pop)) hS₂ rfl
  refine wpAny_pure ⟨plainId_quiet PySem.F.plain_extend_loop _, key _ _ _ ?_ (fun b o hb e => ?_) hS₃⟩
  · refine W.frame 0 _ _ ok fun b hb o e => ?_
    have hbS : b ≠ L := fun h => hf (h ▸ hb)
    exact (Heap.get?_update_other _ _ (Ne.symm hbS)).trans ((Heap.get?_update_other _ _ (Ne.symm hbS)).trans e)
  · exact (Heap.get?_update_other _ _ (Ne.symm hb)).trans ((Heap.get?_update_other _ _ (Ne.symm hb)).trans e)
theorem it_init {R : Result → Shared → Prop} (k : ItSrc prog w T r d n P St) (hh : A.handled = none) (ok : St 0 s.heap) (L : Addr) (hr : L ≠ r) (hd : L ≠ d) (hL : s.heap.get? L = some { cls := .type "list", data := .seq #[] })
    (hR : ∀ h' tk acc' c', (∀ b o, b ≠ L → b ≠ r → s.heap.get? b = some o → h'.get? b = some o) → h'.get? L = some { cls := .type "list", dict := none, data := .seq acc' c', slots := #[] } → ItemsOf P acc' n → R (.ok (.ret .none)) { s with heap := h', toks := tk }) (hn : n ≤ sizeLine) :
    wpAny (model prog w) A.in1 (Builtin.«list.__init__» ⟨[.ref L, .ref r], []⟩)
      (fun fin s' => match fin with | .done f => R (.ok f) s' | .again c' => c'.quiet = true ∧ codeAny (model prog w) A c' R s') (fun e s' => R (.error e) s') s := by
  have W := k.walk A.in1 hh
  show wpAny _ _ (do let old ← Builtin.List.listItems (.ref L); Builtin.List.listUpdate (.ref L) (fun _ => #[]); letGo old.toList.reverse; Builtin.List.listExtendWith (.ref L) (.ref r) .none) _ _ s
  refine wpAny_bind ?_
  unfold Builtin.List.listItems
  refine wpAny_bind (wpAny_seqItems hL rfl (wpAny_pure ?_))
  show wpAny _ _ (updateSeq L (fun _ => #[]) >>= fun _ => letGo (#[] : Array Value).toList.reverse >>= fun _ => Builtin.List.listExtendWith (.ref L) (.ref r) .none) _ _ s
  refine wpAny_bind (wpAny_updateSeq hL rfl ?_)
  have hS₂ := Heap.get?_update_self (Obj.mapSeq (fun _ => (#[] : Array Value))) hL rfl
  have oth : ∀ b o, b ≠ L → s.heap.get? b = some o → (s.heap.update L (Obj.mapSeq (fun _ => (#[] : Array Value)))).get? b = some o :=
    fun b o hb e => (Heap.get?_update_other _ _ (Ne.symm hb)).trans e
  refine wpAny_bind (wpAny_letGo ?_)
  have ok2 : St 0 (s.heap.update L (Obj.mapSeq (fun _ => (#[] : Array Value)))) := W.frame 0 _ _ ok fun b hb o e => oth b o (by
    rcases List.mem_cons.1 hb with rfl | hb
    · exact hr.symm
    · rw [List.mem_singleton.1 hb]; exact hd.symm) e
  refine it_extend k hh ok2 L hr hd .none _ hS₂ (fun h' tk acc' c' hk hS' hacc => ?_) hn
  exact hR h' tk acc' c' (fun b o hb hb2 e => hk b o hb hb2 (oth b o hb e)) hS' hacc
theorem call_list_it {Q : Value → Shared → Prop} (k : ItSrc prog w T r d n P St) (hh : A.handled = none) (ok : St 0 s.heap) (hn : n ≤ sizeLine)
    (hQ : ∀ h' tk acc' c', (∀ b o, b ≠ r → s.heap.get? b = some o → h'.get? b = some o) → h'.get? s.heap.objs.size = some { cls := .type "list", dict := none, data := .seq acc' c', slots := #[] } → ItemsOf P acc' n → Q (.ref s.heap.objs.size) { s with heap := h', toks := tk }) :
    wpAny (model prog w) A (call (.type "list") [.ref r]) Q E s := by
  refine callType_codes (Q₁ := fun obj s₁ => obj = .ref s.heap.objs.size ∧ s₁ = { s with heap := s.heap.push { cls := .type "list", data := .seq #[] } }) PySem.F.called_list (PySem.F.typeCall_list_1 _) PySem.F.entry_list_init
    (code_list_new _ ⟨rfl, rfl⟩) fun obj s₁ h₁ => ?_
  obtain ⟨rfl, rfl⟩ := h₁
  have hS : (s.heap.push { cls := .type "list", data := .seq #[] }).get? s.heap.objs.size = some { cls := .type "list", data := .seq #[] } := Heap.get?_push_size _ rfl
  have hlt := k.there _ ok
  have ok2 : St 0 (s.heap.push { cls := .type "list", data := .seq #[] }) := (k.walk A.in1 hh).frame 0 _ _ ok fun b _ o e => Heap.get?_push_of_some _ e
  refine ⟨⟨_, hS, rfl⟩, PySem.F.args_list_init_2 _ _, it_init (A := A.in1) k hh ok2 _ (Nat.ne_of_gt hlt.1) (Nat.ne_of_gt hlt.2) hS (fun h' tk acc' c' hk hS' hacc => ?_) hn⟩
  exact ⟨rfl, hQ h' tk acc' c' (fun b o hb e => hk b o (Nat.ne_of_lt (Heap.lt_size e)) hb (Heap.get?_push_of_some _ e)) hS' hacc⟩
/-- reversed(l) -/
theorem src_rev {l : Addr} {items : Array Value} (hne : l ≠ r) : ItSrc prog w "list_reverseiterator" r l items.size (fun i v => items[items.size - 1 - i]? = some v) (fun i h => i ≤ items.size ∧ h.IsRevIter r l ((items.size : Int) - 1 - (i : Int)) ∧ h.IsList l items) where
  type := fun s h => h.2.1.typeIs
  there := fun h q => by
    obtain ⟨_, ⟨o, ho, _⟩, ⟨o2, ho2, _⟩⟩ := q
    exact ⟨Heap.lt_size ho, Heap.lt_size ho2⟩
  noL := by decide
  noT := by decide
  walk := fun A hh => Walks.listRev hh r l hne items
  hint := fun A E s Q h q => by
    have hT : s.TypeIs (.ref r) "list_reverseiterator" := h.2.1.typeIs
    unfold Builtin.List.listLengthHint
    refine wpAny_bind (wpAny_specialOf hT RT.nolen_lri ?_)
    show wpAny _ _ (specialOf (Value.ref r) (Str.ofString "__length_hint__") >>= _) _ _ _
    refine wpAny_bind (wpAny_specialOf hT RT.hint_lri ?_)
    generalize hid : ("list_reverseiterator.__length_hint__" : String) = id0
    wp_delta
    rw [show splitId id0 = some ("list_reverseiterator", "__length_hint__") from by subst hid; decide +kernel]
    subst hid
    refine wpAny_bind (wpAny_isInstance (b := true) hT (by rw [isSubtype_type]; kernel_rfl) ?_)
    refine wpAny_pure ?_
    exact q _ s.toks
theorem nolen_rt : typeLookup (.type "reversed") "__len__" = pure none := by rw [typeLookup_type, builtinLookup_eq_fast]; kernel_rfl
theorem slot_rt_hint : Slot "reversed" "__length_hint__" "reversed.__length_hint__" :=
  .of (owner := "reversed") (n := "__length_hint__") (by rw [typeLookup_type, builtinLookup_eq_fast]; kernel_rfl) (by decide +kernel) (by decide +kernel) (by decide +kernel)
    (by first | exact .inl (by decide +kernel) | exact .inr (by decide +kernel)) (by rw [isSubtype_type]; kernel_rfl)
theorem entry_rt_hint : entryFor table "reversed.__length_hint__" = some Builtin.«reversed.__length_hint__» := entryFor_of_tree (by kernel_rfl)
theorem args_rt_hint (a : Value) : argsOk "reversed.__length_hint__" ⟨[a], []⟩ := by
  unfold argsOk; rw [signature?_of (id := "reversed.__length_hint__") (n := ['_', '_', 't', 'n', 'i', 'h', '_', 'h', 't', 'g', 'n', 'e', 'l', '_', '_']) (o := ['d', 'e', 's', 'r', 'e', 'v', 'e', 'r']) (by kernel_rfl) RT.owner_rt]; kernel_rfl
theorem hint_rt {t : Addr} {items : Array Value} {Q : Bool → Shared → Prop} (hit : RT.IsRt s.heap r t ((items.size : Int) - 1)) (ht : IsTup s.heap t items) (hz : items.size ≤ sizeLine) (q : ∀ b tk, Q b { s with toks := tk }) : wpAny (model prog w) A (Builtin.List.listLengthHint (.ref r)) Q E s := by
  have hT : s.TypeIs (.ref r) "reversed" := hit.typeIs
  have hn := line63
  obtain ⟨o, ho, hc, hd⟩ := id hit
  unfold Builtin.List.listLengthHint
  refine wpAny_bind (wpAny_specialOf hT nolen_rt ?_)
  show wpAny _ _ (specialOf (Value.ref r) (Str.ofString "__length_hint__") >>= _) _ _ _
  refine wpAny_bind (wpAny_specialOf hT slot_rt_hint.lookup ?_)
  generalize hid : ("reversed.__length_hint__" : String) = id0
  wp_delta
  rw [show splitId id0 = some ("reversed", "__length_hint__") from by subst hid; decide +kernel]
  subst hid
  refine wpAny_bind (wpAny_isInstance (b := true) hT (by rw [isSubtype_type]; kernel_rfl) ?_)
  rw [if_neg (by decide)]
  dsimp only
  rw [if_neg (by decide +kernel)]
  refine wpAny_bind (wpAny_rule ?_)
  refine wpAny_bind (wpAny_of_eq (slot_rt_hint.bind _) ?_)
  dsimp only
  refine wpAny_bind (wpAny_attempt (wpAny_call_entry slot_rt_hint hT entry_rt_hint ?_ (args_rt_hint _)))
  unfold Builtin.«reversed.__length_hint__»
  refine wpAny_bind (wpAny_of_eq (a := Value.ref r) rfl ?_)
  dsimp only
  refine wpAny_bind (wpAny_field ho hd (x := .ref t) rfl ?_)
  rw [if_neg (show ¬ ((Value.ref t == Value.none) = true) from Bool.false_ne_true)]
  refine wpAny_bind (PyProof.Rows.len_tuple ht (by omega) ?_)
  refine wpAny_bind (wpAny_of_eq (a := some ((items.size : Nat) : Int)) rfl ?_)
  dsimp only
  refine wpAny_bind (wpAny_field (s := { s with toks := s.toks + 1 + 1 }) ho hd (x := rawInt ((items.size : Int) - 1)) rfl ?_)
  show wpAny _ _ (if (items.size : Int) < (items.size : Int) - 1 + 1 then _ else _) _ _ _
  rw [if_neg (by omega)]
  refine wpAny_bind (wpAny_mkInt (wpAny_pure ⟨_, rfl, ?_⟩))
  dsimp only
  refine wpAny_bind (wpAny_of_eq (a := some ((items.size : Int) - 1 + 1)) rfl ?_)
  dsimp only
  have f1 : Builtin.List.listFitsIndex ((items.size : Int) - 1 + 1) = true := by
    unfold Builtin.List.listFitsIndex
    simp only [Bool.and_eq_true, decide_eq_true_eq]
    constructor <;> omega
  have f2 : Builtin.List.listTooLong ((items.size : Int) - 1 + 1).toNat = false := notLongL (by omega)
  rw [f1, if_neg (by decide), if_neg (by omega), f2, if_neg (by decide)]
  exact wpAny_pure (q _ _)
theorem walks_rt {t : Addr} {items : Array Value} (hh : A.handled = none) (hne : t ≠ r) (hz : items.size ≤ sizeLine) :
    Walks prog w A r [r, t] [r] items.size (fun i v => items[items.size - 1 - i]? = some v) (fun i h => i ≤ items.size ∧ RT.IsRt h r t ((items.size : Int) - 1 - (i : Int)) ∧ IsTup h t items) where
  sub := fun b hb => by simp at hb; simp [hb]
  frame := fun i h h' x hk => ⟨x.1, x.2.1.at fun o e => hk r (by simp) o e, let ⟨o, ho, q⟩ := x.2.2; ⟨o, hk t (by simp) o ho, q⟩⟩
  item := fun i s Q E hi x hQ => by
    have e : (items.size : Int) - 1 - (i : Int) = ((items.size - 1 - i : Nat) : Int) := by omega
    have hit := x.2.1
    rw [e] at hit
    have hx : items[items.size - 1 - i]? = some (items[items.size - 1 - i]'(by omega)) := Array.getElem?_eq_getElem (by omega)
    refine RT.next_rt_item hit x.2.2 hx hz fun h' hit' hs' => ?_
    have e2 : ((items.size - 1 - i : Nat) : Int) - 1 = (items.size : Int) - 1 - ((i + 1 : Nat) : Int) := by omega
    rw [e2] at hit'
    exact hQ _ h' (s.toks + 1) hx ⟨hi, hit', let ⟨o, ho, q⟩ := x.2.2; ⟨o, (hs'.2 t hne).trans ho, q⟩⟩ fun b o hb eo => hs'.extBut b o (fun h => hb (by simp [h])) eo
  done := fun s Q E x hQ => by
    have e : (items.size : Int) - 1 - (items.size : Int) = -1 := by omega
    have hit := x.2.1
    rw [e] at hit
    exact RT.next_rt_end hh hit fun h' he' => hQ h' s.toks fun b o hb eo => he' b o (fun h => hb (by simp [h])) eo
  self := fun _ s Q E x hQ => RT.iter_rt x.2.1 hQ
theorem src_rt {t : Addr} {items : Array Value} (hne : t ≠ r) (hz : items.size ≤ sizeLine) : ItSrc prog w "reversed" r t items.size (fun i v => items[items.size - 1 - i]? = some v) (fun i h => i ≤ items.size ∧ RT.IsRt h r t ((items.size : Int) - 1 - (i : Int)) ∧ IsTup h t items) where
  type := fun s h => h.2.1.typeIs
  there := fun h q => by
    obtain ⟨_, ⟨o, ho, _⟩, ⟨o2, ho2, _⟩⟩ := q
    exact ⟨Heap.lt_size ho, Heap.lt_size ho2⟩
  noL := by decide
  noT := by decide
  walk := fun A hh => walks_rt hh hne hz
  hint := fun A E s Q h q => hint_rt (by
    have := h.2.1
    have e : (items.size : Int) - 1 - ((0 : Nat) : Int) = (items.size : Int) - 1 := by omega
    rw [e] at this; exact this) h.2.2 hz q
end
section
variable {X : Cx}
/-- list(reversed(x)) -/
def tRevl (K : PySem.W.Frag) (te : TE) : TE := fun σ H Q => te σ H fun v G => ∃ (a : Addr) (xs : List V), v = .ref a ∧ (SqL K G a xs ∨ SqT K G a xs) ∧ ∀ q, G q = none → Q (.ref q) (L2.upd G q (.lst xs.reverse))
theorem pe_revl {e : Expr} {te : TE} {p p2 pos pos2 : Pos} (hc : X.calm = true) (hg : Gl X "list") (hm : X.mg "list" = none) (hg2 : Gl X "reversed") (hm2 : X.mg "reversed" = none) (he : PE X e te)
    (hs : starEach [e] X.env = (false, eval e X.env) :: starEach [] X.env) :
    PE X (.Call (.Name "list" p) [.Call (.Name "reversed" p2) [e] [] pos2] [] pos) (tRevl X.K te) := by
  refine ⟨fun pins s σ H Q I w => ?_⟩
  refine Call_ (ld_blt I hg hm boot_list (PyProof.Rows.callWith_type1 (args_cons (Call_ (ld_blt I hg2 hm2 PyProof.Rows.boot_reversed (PyProof.Rows.callWith_type1 (args_cons (thn (he.run pins s σ H _ I w) fun u s1 ⟨v, G, J, r1, a, xs, ev, alt, q⟩ => args_nil ?_) hs) hs rfl))) rfl) rfl rfl))
  subst ev
  obtain rfl : u = Value.ref a := r1
  have fin : ∀ (its : List Value) (s2 : Shared), Vals xs its → xs.length ≤ sizeLine → Inv X pins σ G s2 → (∀ b ∈ [s1.heap.objs.size], FpOk X pins G b) → ∀ (h' : Heap) tk acc' c', (∀ b o, b ≠ s1.heap.objs.size → s2.heap.get? b = some o → h'.get? b = some o) →
      h'.get? s2.heap.objs.size = some { cls := .type "list", dict := none, data := .seq acc' c', slots := #[] } → ItemsOf (fun i v => its.toArray[its.toArray.size - 1 - i]? = some v) acc' its.toArray.size → EP X pins σ Q (.ref s2.heap.objs.size) { s2 with heap := h', toks := tk } :=
    fun its s2 rv hz J2 fp h' tk acc' c' hk hl hi => by
      refine ⟨.ref s2.heap.objs.size, _, J2.turnedNew (t' := tk) (ch := [s1.heap.objs.size]) (ob := .lst xs.reverse) (fun b o hb e => hk b o (by simpa using hb) e) fp (Nat.le_refl _) ?_, rfl, q _ (J2.hok.fresh (Nat.le_refl _))⟩
      exact ⟨by rw [List.length_reverse]; exact hz, acc'.toList, c', RT.vals_rev rv hi, by rw [Array.toArray_toList]; exact hl⟩
  have fp : ∀ b ∈ [s1.heap.objs.size], FpOk X pins G b := fun b hb => by
    rw [List.mem_singleton.1 hb]
    exact J.fpOk (Nat.le_refl _) (J.hok.fresh (Nat.le_refl _))
  rcases alt with hq | hq
  · obtain ⟨its, rv, p', hz⟩ := J.list hq
    have hl := rv.length
    have e0 : ((its.toArray.size : Nat) : Int) - 1 - ((0 : Nat) : Int) = (its.toArray.size : Int) - 1 := by omega
    obtain ⟨ol, hol, _⟩ := p'.isList
    have hne : a ≠ s1.heap.objs.size := Nat.ne_of_lt (Heap.lt_size hol)
    refine call_reversed_list p'.isList (args_nil ?_)
    refine call_list_it (s := { s1 with heap := s1.heap.push (revObj a ((its.toArray.size : Int) - 1)) }) (src_rev hne) (J.ok.hd hc) ⟨Nat.zero_le _, ?_, p'.isList.push _⟩ (by rw [List.size_toArray]; omega) fun h' tk acc' c' hk hl hi => ?_
    · rw [e0]; exact ⟨_, Heap.get?_push_size _ rfl, rfl, rfl⟩
    · exact fin its { s1 with heap := s1.heap.push (revObj a ((its.toArray.size : Int) - 1)) } rv hz (J.kept (t' := s1.toks) fun b o e => Heap.get?_push_of_some _ e) fp h' tk acc' c' hk hl hi
  · obtain ⟨its, rv, p', hz⟩ := J.tuple hq
    have hl := rv.length
    have hn := line63
    have e0 : ((its.toArray.size : Nat) : Int) - 1 - ((0 : Nat) : Int) = (its.toArray.size : Int) - 1 := by omega
    have hne : a ≠ s1.heap.objs.size := Nat.ne_of_lt p'.lt
    refine RT.call_reversed_tup p' (fun A E Q k => PyProof.Rows.len_tuple p' (by simp only [List.size_toArray] <;> omega) k) (args_nil ?_)
    refine call_list_it (s := { s1 with heap := s1.heap.push (RT.rtObj a ((its.toArray.size : Int) - 1)), toks := s1.toks + 1 + 1 }) (src_rt hne (by rw [List.size_toArray]; omega)) (J.ok.hd hc) ⟨Nat.zero_le _, ?_, p'.push _⟩ (by rw [List.size_toArray]; omega) fun h' tk acc' c' hk hl hi => ?_
    · rw [e0]; exact ⟨_, Heap.get?_push_size _ rfl, rfl, rfl⟩
    · exact fin its { s1 with heap := s1.heap.push (RT.rtObj a ((its.toArray.size : Int) - 1)), toks := s1.toks + 1 + 1 } rv hz (J.kept (t' := s1.toks + 1 + 1) fun b o e => Heap.get?_push_of_some _ e) fp h' tk acc' c' hk hl hi
end
end Ev
set_option Elab.async false
set_option linter.all false
set_option maxRecDepth 100000
set_option maxHeartbeats 1000000
/-! EvB3a: what is wanted behind a step. -/
namespace Ev
open PySem PySem.Spec PyProof.Rows L2

/-- what is wanted behind a step that ends by a value -/
def Aft (K : PySem.W.Frag) (S : Sto) (H : Hp) (Kk : DK) (Q : VK) : Prop := ∀ d S' v H', Kk d S' → Ext S H S' H' → RepS K S' H' → RV K H' d v → Q v H'
theorem Aft.self {K : PySem.W.Frag} {S : Sto} {H : Hp} {Kk : DK} {Q : VK} (a : Aft K S H Kk Q) (r : RepS K S H) {d : D} {v : V} (k : Kk d S) (rv : RV K H d v) : Q v H := a d S v H k Ext.refl r rv
/-- a new tuple -/
theorem Aft.tup {K : PySem.W.Frag} {S : Sto} {H : Hp} {Kk : DK} {Q : VK} (a : Aft K S H Kk Q) (r : RepS K S H) {l : List D} {vs : List V} (k : Kk (.tup l) S) (rv : RVs K H l vs) {p : Addr} (hp : H p = none) {o : Obj} (hd : o.dict = none) : Q (.ref p) (L2.upd H p (.frz o (.tup vs))) :=
  a _ S _ _ k (Ext.free r hp) (r.free hp) (.tup (.inl ⟨o, upd_same, hd⟩) (rv.mono (stay_new hp)))
/-- a new list -/
theorem Aft.lst {K : PySem.W.Frag} {S : Sto} {H : Hp} {Kk : DK} {Q : VK} (a : Aft K S H Kk Q) (r : RepS K S H) {l : List D} {vs : List V} (k : ∀ p, S p = none → Kk (.ref p) (put S p (.lst l))) (rv : RVs K H l vs) {p : Addr} (hp : H p = none) : Q (.ref p) (L2.upd H p (.lst vs)) :=
  a _ _ _ _ (k p (r.ne hp)) (Ext.made r hp) (r.made hp ⟨vs, upd_same, rv.mono (stay_new hp)⟩) (.ref p)
/-- a list changed -/
theorem Aft.wrote {K : PySem.W.Frag} {S : Sto} {H : Hp} {Kk : DK} {Q : VK} (a : Aft K S H Kk Q) (r : RepS K S H) {n : Nat} {l l' : List D} {vs vs' : List V} (hS : S n = some (.lst l)) (hH : H n = some (.lst vs)) {d : D} {v : V} (k : Kk d (put S n (.lst l')))
    (rv : RVs K H l' vs') (rd : RV K H d v) : Q v (L2.upd H n (.lst vs')) := by
  have st : Stay H (L2.upd H n (.lst vs')) := stay_old hH trivial
  exact a _ _ _ _ k (Ext.wrote hS hH) (r.wrote hS hH trivial ⟨vs', upd_same, rv.mono st⟩) (rd.mono st)

end Ev
set_option Elab.async false
set_option linter.all false
set_option maxRecDepth 100000
set_option maxHeartbeats 1000000
/-! EvBf: lists that nobody changes from now on. -/
namespace Ev
open PySem PySem.Spec PyProof.Rows L2
/-- what is wanted once the lists at A are fixed -/
def lks : List Addr → (Hp → Prop) → Hp → Prop
  | [], Q, H => Q H
  | a :: r, Q, H => ∃ xs, H a = some (.lst xs) ∧ ∀ o, lks r Q (L2.upd H a (.frz o (.lst xs)))
def frQ (Q : VK) : VK := fun v H => ∃ A, lks A (Q v) H
theorem frQ_no {Q : VK} {v : V} {H : Hp} (h : Q v H) : frQ Q v H := ⟨[], h⟩
theorem inv_lks {X : Cx} {pins : List (Addr × Obj)} {σ : L2.St} {s : Shared} : ∀ (A : List Addr) {H : Hp} {Q : Hp → Prop}, Inv X pins σ H s → lks A Q H → ∃ H', Inv X pins σ H' s ∧ Q H'
  | [], H, Q, I, h => ⟨H, I, h⟩
  | a :: r, H, Q, I, ⟨xs, e, h⟩ => by
    obtain ⟨o, I'⟩ := I.lock e trivial
    exact inv_lks r I' (h o)
section
variable {X : Cx}
theorem ep_fr {pins : List (Addr × Obj)} {σ : L2.St} {Q : VK} {u : Value} {s : Shared} (h : EP X pins σ (frQ Q) u s) : EP X pins σ Q u s := by
  obtain ⟨v, H', I, r, A, q⟩ := h
  obtain ⟨H2, I2, q2⟩ := inv_lks A I q
  exact ⟨v, H2, I2, r, q2⟩
theorem PE.fr {e : Expr} {t : TE} (h : PE X e t) : PE X e fun σ H Q => t σ H (frQ Q) := ⟨fun pins s σ H Q I w => thn (h.run pins s σ H _ I w) fun v s1 q => ep_fr q⟩
theorem OpR.fr {f : Value → Value → Sem Value} {r : R2} (h : OpR X f r) : OpR X f fun x y H Q => r x y H (frQ Q) :=
  fun pins s σ H x y v u Q I rx ry q => thn (h pins s σ H x y v u _ I rx ry q) fun v s1 q => ep_fr q
theorem CallR.fr {f : Value} {r : List V → Hp → VK → Prop} (h : CallR X f r) : CallR X f fun x H Q => r x H (frQ Q) :=
  fun pins s σ H x u Q I rx q => thn (h pins s σ H x u _ I rx q) fun v s1 q => ep_fr q
theorem SlR.fr {r : V → Option Int → Option Int → Hp → VK → Prop} (h : SlR X r) : SlR X fun x lo hi H Q => r x lo hi H (frQ Q) :=
  fun pins s σ H x v vl vu lo hi sl Q I rx hs pl pu q => by
    obtain ⟨T, id, h1, h2, h3⟩ := h pins s σ H x v vl vu lo hi sl _ I rx hs pl pu q
    exact ⟨T, id, h1, h2, thn h3 fun v s1 q => ep_fr q⟩
end
section
variable {K : PySem.W.Frag} {S : Sto} {H : Hp} {Kk : DK} {Q : VK}
/-- a new list, perhaps one that nobody changes -/
theorem Aft.newl (a : Aft K S H Kk Q) (r : RepS K S H) {l : List D} {vs : List V} (k : Ev.newl l S Kk) (rv : RVs K H l vs) {p : Addr} (hp : H p = none) : frQ Q (.ref p) (L2.upd H p (.lst vs)) := by
  rcases k with k | k
  · exact frQ_no (a.lst r k rv hp)
  · refine ⟨[p], vs, upd_same, fun o => ?_⟩
    show Q _ _
    rw [L2.upd_upd]
    exact a _ S _ _ k (Ext.free r hp) (r.free hp) (.fz (.inl ⟨o, upd_same⟩) (rv.mono (stay_new hp)))
theorem lks_of : ∀ (A : List Addr) {H : Hp} {Q : Hp → Prop}, A.Nodup → (∀ a ∈ A, ∃ xs, H a = some (.lst xs)) →
    (∀ H', (∀ a ∈ A, ∀ xs, H a = some (.lst xs) → ∃ o, H' a = some (.frz o (.lst xs))) → (∀ a, a ∉ A → H' a = H a) → Q H') → lks A Q H
  | [], H, Q, _, _, h => h H (fun _ m => nomatch m) fun _ _ => rfl
  | a :: r, H, Q, nd, hA, h => by
    rw [List.nodup_cons] at nd
    obtain ⟨xs, e⟩ := hA a List.mem_cons_self
    refine ⟨xs, e, fun o => lks_of r nd.2 (fun b hb => ?_) fun H' h1 h2 => h H' (fun b hb ys ey => ?_) fun b hb => ?_⟩
    · obtain ⟨ys, ey⟩ := hA b (List.mem_cons_of_mem _ hb)
      exact ⟨ys, by rw [upd_ne (fun z => by rw [z] at hb; exact nd.1 hb)]; exact ey⟩
    · rcases List.mem_cons.1 hb with rfl | hb
      · rw [e] at ey
        cases ey
        exact ⟨o, by rw [h2 _ nd.1, upd_same]⟩
      · exact h1 b hb ys (by rw [upd_ne (fun z => by rw [z] at hb; exact nd.1 hb)]; exact ey)
    · rw [List.mem_cons, not_or] at hb
      rw [h2 b hb.2, upd_ne hb.1]
mutual
theorem fzr_rv {A : List Nat} {H' : Hp} (rs : RepS K S H) (st : Stay H H') (hA : ∀ a ∈ A, ∀ xs, H a = some (.lst xs) → ∃ o, H' a = some (.frz o (.lst xs))) : ∀ {d d' : D} {v : V}, FzR A S d d' → RV K H d v → RV K H' d' v
  | _, _, _, .same d, r => r.mono st
  | _, _, _, .ref (n := n) (l := l) hn hS hl, .ref _ => by
    obtain ⟨vs, e, r⟩ := rs n _ hS
    obtain ⟨o, e'⟩ := hA n hn vs e
    exact .fz (.inl ⟨o, e'⟩) (fzr_rvs rs st hA hl r)
  | _, _, _, .tup hl, .tup hp r => .tup (st.tpS hp) (fzr_rvs rs st hA hl r)
  | _, _, _, .fz hl, .fz hp r => .fz (st.fzL hp) (fzr_rvs rs st hA hl r)
theorem fzr_rvs {A : List Nat} {H' : Hp} (rs : RepS K S H) (st : Stay H H') (hA : ∀ a ∈ A, ∀ xs, H a = some (.lst xs) → ∃ o, H' a = some (.frz o (.lst xs))) : ∀ {d d' : List D} {v : List V}, FzRs A S d d' → RVs K H d v → RVs K H' d' v
  | _, _, _, .nil, .nil => .nil
  | _, _, _, .cons h t, .cons r rt => .cons (fzr_rv rs st hA h r) (fzr_rvs rs st hA t rt)
end
/-- what is wanted of the value, or of the value with fixed lists -/
theorem fr_end {d : D} {v : V} (rs : RepS K S H) (rv : RV K H d v) (k : frW Kk d S) (h : ∀ d' S' H', Kk d' S' → RV K H' d' v → RepS K S' H' → Ext S H S' H' → Q v H') : frQ Q v H := by
  obtain ⟨A, x', nd, hA, fz, k⟩ := k
  refine ⟨A, lks_of A nd (fun a ha => ?_) fun H' h1 h2 => ?_⟩
  · obtain ⟨l, e⟩ := hA a ha
    obtain ⟨vs, e', _⟩ := rs a _ e
    exact ⟨vs, e'⟩
  have inA : ∀ {a}, a ∈ A → ∃ vs, H a = some (.lst vs) := fun {a} ha => by
    obtain ⟨l, e⟩ := hA a ha
    obtain ⟨vs, e', _⟩ := rs a _ e
    exact ⟨vs, e'⟩
  have st : Stay H H' := by
    refine ⟨fun a xs e => ?_, fun a o u e => ?_⟩
    · by_cases ha : a ∈ A
      · obtain ⟨vs, e'⟩ := inA ha
        rw [e] at e'; cases e'
      · rw [h2 a ha]; exact e
    · by_cases ha : a ∈ A
      · obtain ⟨vs, e'⟩ := inA ha
        rw [e] at e'; cases e'
      · rw [h2 a ha]; exact e
  refine h x' (less A S) H' k (fzr_rv rs st h1 fz rv) (fun a o e => ?_) ⟨fun a o n e => ?_, fun a n e => ?_⟩
  · unfold less at e
    by_cases ha : a ∈ A
    · rw [if_pos ha] at e; cases e
    · rw [if_neg ha] at e
      exact (rs a o e).mono st fun u q => by rw [h2 a ha]; exact q
  · by_cases ha : a ∈ A
    · obtain ⟨l, e'⟩ := hA a ha
      rw [n] at e'; cases e'
    · rw [h2 a ha]; exact e
  · unfold less
    split
    · rfl
    · exact n
theorem lst_src {d : D} {v : V} {l : List D} (rs : RepS K S H) (r : RV K H d v) (h : lst? S d = some l) : ∃ a vs, v = .ref a ∧ SqL K H a vs ∧ RVs K H l vs := by
  cases r with
  | @fz ds a xs hf rl => cases h; exact ⟨a, xs, rfl, hf.sq, rl⟩
  | ref n =>
    simp only [lst?] at h
    cases e : S n with
    | none => rw [e] at h; cases h
    | some o =>
      rw [e] at h
      cases o with
      | lst l' =>
        cases h
        obtain ⟨vs, e2, r⟩ := rs n _ e
        exact ⟨n, vs, rfl, .of e2, r⟩
      | dic l' => cases h
      | dit l' => cases h
      | ins c f => cases h
  | _ => cases h
end
end Ev
set_option Elab.async false
set_option linter.all false
set_option maxRecDepth 100000
set_option maxHeartbeats 1000000
/-! EvB3: the binary operators, truth. -/
namespace Ev
open PySem PySem.Spec PyProof.Rows L2

def bopOf : Bop → Operator
  | .add => .Add | .sub => .Sub | .mul => .Mult | .fdiv => .FloorDiv | .mod => .Mod | .pow => .Pow | .shl => .LShift | .shr => .RShift | .and => .BitAnd | .or => .BitOr | .xor => .BitXor
def rBin (K : PySem.W.Frag) (op : Bop) : R2 := fun x y H Q => ∃ a b S Kk, RV K H a x ∧ RV K H b y ∧ RepS K S H ∧ binW op a b S Kk ∧ Aft K S H Kk Q
section
variable {X : Cx}
theorem OpR.imp {f : Value → Value → Sem Value} {r r' : R2} (h : OpR X f r) (hi : ∀ x y H Q, r' x y H Q → r x y H Q) : OpR X f r' :=
  fun pins s σ H x y v u Q I rx ry q => h pins s σ H x y v u Q I rx ry (hi x y H Q q)
theorem mulOk_ok {i j : Int} (h : mulOk i j) : CMulX i j := by
  have b : ∀ x : Int, Builtin.Int.intBits x ≤ x.natAbs.log2 + 1 := fun x => by
    unfold Builtin.Int.intBits
    split <;> omega
  have h1 := b i
  have h2 := b j
  unfold mulOk at h
  unfold CMulX
  omega
theorem lst_of {K : PySem.W.Frag} {S : Sto} {H : Hp} (r : RepS K S H) {n : Nat} {l : List D} (h : S n = some (.lst l)) : ∃ vs, H n = some (.lst vs) ∧ RVs K H l vs := r n _ h
theorem rvs_rep {K : PySem.W.Frag} {H : Hp} {l : List D} {vs : List V} (r : RVs K H l vs) : ∀ k : Nat, RVs K H (List.replicate k l).flatten (List.replicate k vs).flatten
  | 0 => .nil
  | k + 1 => by
    rw [List.replicate_succ, List.replicate_succ, List.flatten_cons, List.flatten_cons]
    exact r.app (rvs_rep r k)
/-- l + r, of lists -/
def rCatS (K : PySem.W.Frag) : R2 := fun x y H Q => ∃ l b xs zs, x = .ref l ∧ y = .ref b ∧ SqL K H l xs ∧ SqL K H b zs ∧ xs.length + zs.length ≤ sizeLine ∧ ∀ p, H p = none → Q (.ref p) (L2.upd H p (.lst (xs ++ zs)))
theorem op_catS : OpR X (binaryOp .Add) (rCatS X.K) := by
  intro pins s σ H x y v u Q I rx ry h
  obtain ⟨l, b, xs, zs, rfl, rfl, hH, hB, hz, q⟩ := h
  cases rx
  cases ry
  obtain ⟨its, r, pl, _⟩ := I.list hH
  obtain ⟨its2, r2, pl2, _⟩ := I.list hB
  obtain ⟨⟨cls, dd, data, sl⟩, ho, hc, n, hd⟩ := pl.isList
  obtain ⟨⟨cls2, dd2, data2, sl2⟩, ho2, hc2, n2, hd2⟩ := pl2.isList
  simp only at hc hd hc2 hd2
  subst hc hd hc2 hd2
  have l1 := r.length
  have l2 := r2.length
  have e : its.toArray ++ its2.toArray = (its ++ its2).toArray := by simp
  refine concat_meets ⟨_, ho, rfl⟩ ⟨_, ho2, rfl⟩ noFill_list_add seq_list_add PySem.F.slot_list_add PySem.F.entry_list_add (PySem.F.args_list_add_2 _ _) (list_addW l b its.toArray its2.toArray n n2 dd dd2 sl sl2 (by simp; omega)) ⟨ho, ho2, ?_⟩
  rw [e]
  exact ⟨.ref _, _, I.lnew (t' := s.toks) (r.append r2) (by rw [List.length_append]; omega), rfl, q _ I.fresh⟩
theorem op_catW {a b : D} {S : Sto} {Kk : DK} {pins : List (Addr × Obj)} {s : Shared} {σ : L2.St} {H : Hp} {x y : V} {v u : Value} {Q : VK} (I : Inv X pins σ H s) (rx : RelV x v) (ry : RelV y u) (ra : RV X.K H a x) (rb : RV X.K H b y) (rs : RepS X.K S H)
    (h : catW a b S Kk) (aft : Aft X.K S H Kk Q) : wpAny (model X.prog X.w) X.A (binaryOp .Add v u) (EP X pins σ Q) X.xe s := by
  obtain ⟨l, r, hl, hr, hz, k⟩ := h
  obtain ⟨m, xs, rfl, hx, rl⟩ := lst_src rs ra hl
  obtain ⟨n, ys, rfl, hy, rr⟩ := lst_src rs rb hr
  exact OpR.fr op_catS pins s σ H _ _ v u Q I rx ry ⟨m, n, xs, ys, rfl, rfl, hx, hy, by rw [← line_eq, ← rl.len, ← rr.len]; exact hz, fun p hp => aft.newl rs k (rl.app rr) hp⟩
theorem op_bin (op : Bop) : OpR X (binaryOp (bopOf op)) (rBin X.K op) := by
  intro pins s σ H x y v u Q I rx ry ⟨a, b, S, Kk, ra, rb, rs, h, aft⟩
  cases op with
  | add =>
    cases ra with
    | int i =>
      cases rb with
      | int j => exact op_add pins s σ H _ _ v u Q I rx ry ⟨i, j, rfl, rfl, aft.self rs h (.int _)⟩
      | bl j => exact op_add_ib pins s σ H _ _ v u Q I rx ry ⟨i, j, rfl, rfl, aft.self rs h (.int _)⟩
      | _ => exact h.elim
    | str z =>
      cases rb with
      | str t => exact op_add_str pins s σ H _ _ v u Q I rx ry ⟨z, t, rfl, rfl, by rw [← line_eq]; exact h.1, aft.self rs h.2 (.str _)⟩
      | _ => exact h.elim
    | @tup l p xs hp rl =>
      cases rb with
      | @tup m q ys hq rm =>
        refine op_catN pins s σ H _ _ v u Q I rx ry ⟨p, q, xs, ys, rfl, rfl, hp.sq, hq.sq, by rw [← line_eq, ← rl.len, ← rm.len]; exact h.1, fun e => ?_, fun e e2 => ?_, fun w o hw hd => ?_⟩
        · subst e
          cases rl
          exact aft.self rs h.2 (.tup hq rm)
        · subst e2
          cases rm
          refine aft.self rs h.2 (.tup hp ?_)
          rw [List.append_nil]
          exact rl
        · exact aft.tup rs h.2 (rl.app rm) hw hd
      | _ => exact h.elim
    | ref m =>
      cases rb with
      | ref n => exact op_catW I rx ry (.ref m) (.ref n) rs h aft
      | fz h1 h2 => exact op_catW I rx ry (.ref m) (.fz h1 h2) rs h aft
      | _ => exact h.elim
    | fz h3 h4 =>
      cases rb with
      | ref n => exact op_catW I rx ry (.fz h3 h4) (.ref n) rs h aft
      | fz h1 h2 => exact op_catW I rx ry (.fz h3 h4) (.fz h1 h2) rs h aft
      | _ => exact h.elim
    | _ => exact h.elim
  | sub =>
    cases ra with
    | int i =>
      cases rb with
      | int j => exact op_sub pins s σ H _ _ v u Q I rx ry ⟨i, j, rfl, rfl, aft.self rs h (.int _)⟩
      | _ => exact h.elim
    | _ => exact h.elim
  | mul =>
    cases ra with
    | int i =>
      cases rb with
      | int j => exact op_mulX pins s σ H _ _ v u Q I rx ry ⟨i, j, rfl, rfl, mulOk_ok h.1, aft.self rs h.2 (.int _)⟩
      | _ => exact h.elim
    | ref m =>
      cases rb with
      | int k =>
        obtain ⟨l, hl, k1, k2, hz, kk⟩ := h
        obtain ⟨xs, hx, rl⟩ := lst_of rs hl
        exact OpR.fr op_rep pins s σ H _ _ v u Q I rx ry ⟨m, k, xs, rfl, rfl, hx, by omega, by omega, by rw [← line_eq, ← rl.len]; exact hz, fun p hp => aft.newl rs kk (rvs_rep rl _) hp⟩
      | _ => exact h.elim
    | @tup l p xs hp rl =>
      cases rb with
      | int k =>
        obtain ⟨⟨k1, k2, k3⟩, kk⟩ := h
        refine op_repN pins s σ H _ _ v u Q I rx ry ⟨p, k, xs, rfl, rfl, hp.sq, k1, k2, by rw [← rl.len]; exact k3, fun e => ?_, fun w o hw hd => aft.tup rs kk (rvs_rep rl _) hw hd⟩
        rcases e with rfl | rfl
        · cases rl
          have e2 : (List.replicate k.toNat ([] : List D)).flatten = [] := by simp
          rw [e2] at kk
          exact aft.self rs kk (.tup hp .nil)
        · have e2 : (List.replicate (1 : Int).toNat l).flatten = l := by simp
          rw [e2] at kk
          exact aft.self rs kk (.tup hp rl)
      | _ => exact h.elim
    | _ => exact h.elim
  | fdiv =>
    cases ra with
    | int i =>
      cases rb with
      | int j => exact op_fdivW pins s σ H _ _ v u Q I rx ry ⟨i, j, rfl, rfl, h.1, aft.self rs h.2 (.int _)⟩
      | _ => exact h.elim
    | _ => exact h.elim
  | mod =>
    cases ra with
    | int i =>
      cases rb with
      | int j => exact op_mod pins s σ H _ _ v u Q I rx ry ⟨i, j, rfl, rfl, h.1, aft.self rs h.2 (.int _)⟩
      | _ => exact h.elim
    | _ => exact h.elim
  | pow =>
    cases ra with
    | int i =>
      cases rb with
      | int j => exact op_pow pins s σ H _ _ v u Q I rx ry ⟨i, j, rfl, rfl, h.1, aft.self rs h.2 (.int _)⟩
      | _ => exact h.elim
    | _ => exact h.elim
  | shl =>
    cases ra with
    | int i =>
      cases rb with
      | int j => exact op_shl pins s σ H _ _ v u Q I rx ry ⟨i, j, rfl, rfl, h.1, aft.self rs h.2 (.int _)⟩
      | _ => exact h.elim
    | _ => exact h.elim
  | shr =>
    cases ra with
    | int i =>
      cases rb with
      | int j => exact op_shr pins s σ H _ _ v u Q I rx ry ⟨i, j, rfl, rfl, h.1, aft.self rs h.2 (.int _)⟩
      | _ => exact h.elim
    | _ => exact h.elim
  | and =>
    cases ra with
    | int i =>
      cases rb with
      | int j => exact op_and pins s σ H _ _ v u Q I rx ry ⟨i, j, rfl, rfl, aft.self rs h (by rw [band_eq]; exact .int _)⟩
      | _ => exact h.elim
    | _ => exact h.elim
  | or =>
    cases ra with
    | int i =>
      cases rb with
      | int j => exact op_or pins s σ H _ _ v u Q I rx ry ⟨i, j, rfl, rfl, aft.self rs h (by rw [bor_eq]; exact .int _)⟩
      | _ => exact h.elim
    | _ => exact h.elim
  | xor =>
    cases ra with
    | int i =>
      cases rb with
      | int j => exact op_xor pins s σ H _ _ v u Q I rx ry ⟨i, j, rfl, rfl, aft.self rs h (by rw [bxor_eq]; exact .int _)⟩
      | _ => exact h.elim
    | _ => exact h.elim

/-! ### truth -/
theorem rks_len {K : PySem.W.Frag} {H : Hp} {l : List (D × D)} {kv : List (Key × V)} (r : RKs K H l kv) : l.length = kv.length := by
  induction r with
  | nil => rfl
  | cons _ _ _ ih => exact congrArg Nat.succ ih
theorem emp_len {α β : Type} {l : List α} {m : List β} (h : l.length = m.length) : l.isEmpty = m.isEmpty := by
  cases l <;> cases m <;> simp at h ⊢
theorem truth_ok {K : PySem.W.Frag} {S : Sto} {H : Hp} (rs : RepS K S H) {d : D} {v : V} {b : Bool} (r : RV K H d v) (h : truth? S d = some b) : TruV K v H b := by
  cases r with
  | non => cases h; rfl
  | bl c => cases h; rfl
  | int i => cases h; rfl
  | str z =>
    simp only [truth?] at h
    by_cases q : z.length ≤ line
    · rw [if_pos q] at h
      cases h
      exact ⟨by rw [← line_eq]; exact q, rfl⟩
    · rw [if_neg q] at h; cases h
  | @tup l p xs hp rl =>
    cases h
    exact .inr (.inl ⟨xs, hp.sq, by rw [emp_len rl.len]⟩)
  | @tpu l p xs hp rl =>
    cases h
    exact .inr (.inl ⟨xs, hp, by rw [emp_len rl.len]⟩)
  | @fz l p xs hp rl =>
    cases h
    exact .inl ⟨xs, hp.sq, by rw [emp_len rl.len]⟩
  | ref n =>
    simp only [truth?] at h
    cases e : S n with
    | none => rw [e] at h; cases h
    | some o =>
      rw [e] at h
      cases o with
      | lst l =>
        cases h
        obtain ⟨vs, e2, r⟩ := rs n _ e
        exact .inl ⟨vs, .of e2, by rw [emp_len r.len]⟩
      | dic l =>
        cases h
        obtain ⟨kv, e2, r⟩ := rs n _ e
        exact .inr (.inr ⟨kv, e2, by rw [emp_len (rks_len r)]⟩)
      | dit l => cases h
      | ins c f => cases h
end
end Ev
set_option Elab.async false
set_option linter.all false
set_option maxRecDepth 100000
set_option maxHeartbeats 1000000
/-! EvB4: comparisons, items, slices. -/
namespace Ev
open PySem PySem.Spec PyProof.Rows L2

def copOf : Cop → CmpOp
  | .lt => .Lt | .le => .LtE | .gt => .Gt | .ge => .GtE | .eq => .Eq | .ne => .NotEq | .is => .Is | .isnot => .IsNot | .inn => .In | .notin => .NotIn
def rCmp (K : PySem.W.Frag) (op : Cop) : R2 := fun x y H Q => ∃ a b S Kb, RV K H a x ∧ RV K H b y ∧ RepS K S H ∧ cmpW op a b S Kb ∧ ∀ c, Kb c → Q (.bl c) H
section
variable {K : PySem.W.Frag} {S : Sto} {H : Hp}
theorem flat_dp (rs : RepS K S H) {a d : D} {x : V} (ra : RV K H a x) (h : flat? S a = some d) (f : finT d = true) : Dp K H x (pd d) ∧ SeqAt.shaped (pd d) = true := by
  cases ra with
  | ref m =>
    simp only [flat?] at h
    cases e : S m with
    | none => rw [e] at h; cases h
    | some o =>
      rw [e] at h
      cases o with
      | lst l =>
        cases h
        obtain ⟨vs, e2, r⟩ := rs m _ e
        rw [pd]
        exact ⟨.lst (.of e2) (fin_dps r f), fin_shapedL f⟩
      | dic l => cases h
      | dit l => cases h
      | ins c f => cases h
  | fz h1 h2 =>
    cases h
    rw [pd]
    exact ⟨.lst h1.sq (fin_dps h2 f), fin_shapedL f⟩
  | tup h1 h2 => cases h; exact ⟨fin_dp (.tup h1 h2) f, fin_shaped f⟩
  | tpu h1 h2 => cases h; exact ⟨fin_dp (.tpu h1 h2) f, fin_shaped f⟩
  | non => cases h; exact ⟨fin_dp .non f, fin_shaped f⟩
  | bl b => cases h; exact ⟨fin_dp (.bl b) f, fin_shaped f⟩
  | int b => cases h; exact ⟨fin_dp (.int b) f, fin_shaped f⟩
  | str b => cases h; exact ⟨fin_dp (.str b) f, fin_shaped f⟩
theorem eqT_eqv {a b : D} (fa : finT a = true) (fb : finT b = true) : PyData.eqv (pd a) (pd b) = eqT a b := by
  cases a with
  | fz l =>
    cases b with
    | fz m =>
      simp only [pd, PyData.eqv, eqT]
      exact eqFs_eqv fa fb
    | ref n => simp [finT, fin] at fb
    | _ => simp [pd, PyData.eqv, eqT]
  | ref n => simp [finT, fin] at fa
  | _ =>
    cases b with
    | fz m => simp [pd, PyData.eqv, eqT]
    | ref n => simp [finT, fin] at fb
    | _ => exact eqF_eqv (n := 12) fa fb
theorem eqW_data (rs : RepS K S H) {a b : D} {x y : V} {Kb : Bool → Prop} (ra : RV K H a x) (rb : RV K H b y) (h : eqW S a b Kb) :
    ∃ d e, Dp K H x d ∧ Dp K H y e ∧ SeqAt.shaped d = true ∧ SeqAt.shaped e = true ∧ Kb (PyData.eqv d e) := by
  obtain ⟨d, e, hd, he, f, k⟩ := h
  rw [Bool.and_eq_true] at f
  obtain ⟨a1, a2⟩ := flat_dp rs ra hd f.1
  obtain ⟨b1, b2⟩ := flat_dp rs rb he f.2
  exact ⟨pd d, pd e, a1, b1, a2, b2, by rw [eqT_eqv f.1 f.2]; exact k⟩

/-- dicts -/
theorem eqF_kd (a b : Key) : eqF 12 (kd a) (kd b) = decide (a = b) := by
  cases a with
  | inl i =>
    cases b with
    | inl j =>
      simp only [kd, eqF]
      rw [Bool.eq_iff_iff]
      simp
    | inr s => simp [kd, eqF]
  | inr i =>
    cases b with
    | inl j => simp [kd, eqF]
    | inr s => simp [kd, eqF]
theorem getk_cons (a : D × D) (l : List (D × D)) (k : D) : getk (a :: l) k = if eqF 12 a.1 k = true then some a.2 else getk l k := by
  unfold getk
  rw [List.find?_cons]
  cases eqF 12 a.1 k <;> simp
theorem rks_has {l : List (D × D)} {kv : List (Key × V)} (r : RKs K H l kv) (k : Key) :
    (getk l (kd k) = none ∧ valV kv k = none) ∨ ∃ y v, getk l (kd k) = some y ∧ valV kv k = some v ∧ RV K H y v := by
  induction r with
  | nil => exact .inl ⟨rfl, rfl⟩
  | @cons k' d v l kv r _ ih =>
    rw [getk_cons, eqF_kd]
    by_cases e : k' = k
    · subst e
      exact .inr ⟨d, v, by simp, valV_pos rfl, r⟩
    · rw [valV_neg e, decide_eq_false e]
      exact ih
theorem hask_getk (l : List (D × D)) (k : D) : hask l k = (getk l k).isSome := by
  unfold hask
  induction l with
  | nil => rfl
  | cons p l ih =>
    rw [List.any_cons, getk_cons, ih]
    cases h : eqF 12 p.1 k <;> simp
theorem key_of_d {d : D} {x : V} (r : RV K H d x) (h : isKey d = true) : ∃ k : Key, d = kd k ∧ x = kV k := by
  cases r with
  | int i => exact ⟨.inl i, rfl, rfl⟩
  | str i => exact ⟨.inr i, rfl, rfl⟩
  | _ => simp [isKey] at h
theorem dic_get (rs : RepS K S H) {n : Nat} {l : List (D × D)} {d : D} {x : V} (hS : S n = some (.dic l)) (r : RV K H d x) (h : isKey d = true) :
    (getk l d = none ∧ DGet H n x none) ∨ ∃ y v, getk l d = some y ∧ DGet H n x (some v) ∧ RV K H y v := by
  obtain ⟨kv, e, rk⟩ := rs n _ hS
  obtain ⟨k, rfl, rfl⟩ := key_of_d r h
  have g := DGet.k (k := k) e
  rcases rks_has rk k with ⟨a, b⟩ | ⟨y, v, a, b, c⟩
  · rw [b] at g; exact .inl ⟨a, g⟩
  · rw [b] at g; exact .inr ⟨y, v, a, g, c⟩
theorem rks_any {l : List (D × D)} {kv : List (Key × V)} (r : RKs K H l kv) (k : Key) : hask l (kd k) = kv.any fun p => decide (p.1 = k) := by
  unfold hask
  induction r with
  | nil => rfl
  | cons k' _ _ ih => rw [List.any_cons, List.any_cons, ih, eqF_kd]
theorem rks_map {l : List (D × D)} {kv : List (Key × V)} (r : RKs K H l kv) (k : Key) {y : D} {v : V} (ry : RV K H y v) :
    RKs K H (l.map fun p => if eqF 12 p.1 (kd k) = true then (p.1, y) else p) (kv.map fun p => if p.1 = k then (p.1, v) else p) := by
  induction r with
  | nil => exact .nil
  | @cons k' d' v' l kv r _ ih =>
    rw [List.map_cons, List.map_cons, eqF_kd]
    by_cases e : k' = k
    · simp only [e, decide_true, if_true]
      exact .cons k ry ih
    · simp only [e, decide_false, if_false, Bool.false_eq_true]
      exact .cons k' r ih
theorem rks_snoc {l : List (D × D)} {kv : List (Key × V)} (r : RKs K H l kv) (k : Key) {y : D} {v : V} (ry : RV K H y v) : RKs K H (l ++ [(kd k, y)]) (kv ++ [(k, v)]) := by
  induction r with
  | nil => exact .cons k ry .nil
  | cons k' r _ ih => exact .cons k' r ih
theorem rks_put {l : List (D × D)} {kv : List (Key × V)} (r : RKs K H l kv) (k : Key) {y : D} {v : V} (ry : RV K H y v) : RKs K H (putk l (kd k) y) (putK kv k v) := by
  unfold putk putK
  rw [rks_any r k]
  cases kv.any fun p => decide (p.1 = k) with
  | true => exact rks_map r k ry
  | false => exact rks_snoc r k ry
theorem rks_keys {l : List (D × D)} {kv : List (Key × V)} (r : RKs K H l kv) : RVs K H (l.map (·.1)) (kv.map fun p => kV p.1) := by
  induction r with
  | nil => exact .nil
  | cons k r _ ih =>
    refine .cons ?_ ih
    cases k with
    | inl i => exact .int i
    | inr i => exact .str i
end
section
variable {X : Cx}
theorem any_eqvL {a : D} {l : List D} (fa : fin 12 a = true) (f : l.all (fin 12) = true) : (pds l).any (fun e => PyData.eqv e (pd a)) = l.any fun y => eqF 12 y a := by
  induction l with
  | nil => simp [pds]
  | cons d l ih =>
    rw [pds, List.any_cons, List.any_cons, eqF_eqv (fin_cons f).1 fa, ih (fin_cons f).2]
end
end Ev
set_option Elab.async false
set_option linter.all false
set_option maxRecDepth 100000
set_option maxHeartbeats 1000000
/-! EvDt: dicts whose keys are tuples of ints. -/
namespace Ev
open PySem PySem.Spec PyProof.Rows L2

theorem hash_same {P P' : Program} {w w' : World} (ks : List Int) : (tupleKind (mixKind P w)).hash (ikey ks) = (tupleKind (mixKind P' w')).hash (ikey ks) := by
  show tupleKeyHash (mixKind P w) (ikey ks) = tupleKeyHash (mixKind P' w') (ikey ks)
  unfold tupleKeyHash ikey
  rw [List.map_map, List.map_map]
  rfl
theorem ikey_inj {a b : List Int} (h : ikey a = ikey b) : a = b := by
  unfold ikey at h
  exact (List.map_inj_right (fun x y e => Sum.inl.inj e)).1 h
theorem ikey_V (ks : List Int) : (ikey ks).map kV = ks.map V.int := by
  unfold ikey
  rw [List.map_map]
  rfl
theorem ints_all : ∀ (m : List D) (x : List Int), ints? m = some x → m = x.map D.int := fun m => by
  induction m with
  | nil => intro x h; cases h; rfl
  | cons a m ih =>
    intro x h
    cases a with
    | int i =>
      have h : (ints? m).map (i :: ·) = some x := h
      cases q : ints? m with
      | none => rw [q] at h; cases h
      | some w => rw [q] at h; cases h; rw [ih w q]; rfl
    | _ => cases h
theorem allF_ints (n : Nat) : ∀ a b : List Int, allF (eqF n) (a.map D.int) (b.map D.int) = decide (a = b)
  | [], [] => rfl
  | [], _ :: _ => rfl
  | _ :: _, [] => rfl
  | x :: a, y :: b => by
    show (eqF n (.int x) (.int y) && allF (eqF n) (a.map D.int) (b.map D.int)) = _
    rw [allF_ints n a b]
    have e : eqF n (.int x) (.int y) = decide (x = y) := by
      cases n <;> (simp only [eqF]; rw [Bool.eq_iff_iff]; simp)
    rw [e, ← Bool.decide_and]
    exact decide_eq_decide.2 ⟨fun e => by rw [e.1, e.2], fun e => by cases e; exact ⟨rfl, rfl⟩⟩
theorem eqF_tpI (a b : List Int) : eqF 12 (tpI a) (tpI b) = decide (a = b) := by
  show allF (eqF 11) (a.map D.int) (b.map D.int) = _
  exact allF_ints 11 a b
section
variable {K : PySem.W.Frag} {S : Sto} {H H' : Hp}
theorem key_tk {d : D} {x : V} (r : RV K H d x) (h : isTk d = true) : ∃ ks b, d = tpI ks ∧ x = .ref b ∧ TpS K H b (ks.map V.int) := by
  cases r with
  | @tup l a xs hp rl =>
    have h : (ints? l).isSome = true := h
    cases e : ints? l with
    | none => rw [e] at h; cases h
    | some z =>
      have e1 := ints_all l z e
      have e2 := rl.ints e
      subst e1
      subst e2
      exact ⟨z, a, rfl, rfl, hp⟩
  | _ => cases h
/-- what stands at a key -/
theorem rts_has {l : List (D × D)} {xs : List (List Int × Addr × V)} {ys : List (List Key × Addr × Value)} (r : RTs K H l xs) (p : Paired tdR xs ys) (ks : List Int) :
    (getk l (tpI ks) = none ∧ atKey ys (ikey ks) = none) ∨ ∃ d v q, getk l (tpI ks) = some d ∧ atKey ys (ikey ks) = some q ∧ RelV v q.2 ∧ RV K H d v := by
  induction r generalizing ys with
  | nil => cases p; exact .inl ⟨rfl, rfl⟩
  | @cons k0 b d v l xs hk rv _ ih =>
    cases p with
    | @cons _ q _ qs h t =>
      obtain ⟨h1, h2, h3⟩ := h
      rw [getk_cons, eqF_tpI]
      by_cases e : k0 = ks
      · subst e
        exact .inr ⟨d, v, q.2, by simp, by simp [atKey, List.find?_cons, h1], h3, rv⟩
      · have e' : ¬ q.1 = ikey ks := fun z => e (ikey_inj (h1.symm.trans z))
        have b : atKey (q :: qs) (ikey ks) = atKey qs (ikey ks) := by simp [atKey, List.find?_cons, e']
        rw [b, decide_eq_false e]
        exact ih t
def putX (xs : List (List Int × Addr × V)) (ks : List Int) (b : Addr) (v : V) : List (List Int × Addr × V) :=
  if xs.any fun x => decide (x.1 = ks) then xs.map fun x => if x.1 = ks then (x.1, x.2.1, v) else x else xs ++ [(ks, b, v)]
theorem putX_len (xs : List (List Int × Addr × V)) (ks : List Int) (b : Addr) (v : V) : (putX xs ks b v).length ≤ xs.length + 1 := by
  unfold putX
  split
  · rw [List.length_map]; omega
  · rw [List.length_append, List.length_singleton]; exact Nat.le_refl _
theorem rts_any {l : List (D × D)} {xs : List (List Int × Addr × V)} (r : RTs K H l xs) (ks : List Int) : hask l (tpI ks) = xs.any fun x => decide (x.1 = ks) := by
  unfold hask
  induction r with
  | nil => rfl
  | cons _ _ _ ih => rw [List.any_cons, List.any_cons, ih, eqF_tpI]
theorem rts_len {l : List (D × D)} {xs : List (List Int × Addr × V)} (r : RTs K H l xs) : l.length = xs.length := by
  induction r with
  | nil => rfl
  | cons _ _ _ ih => rw [List.length_cons, List.length_cons, ih]
theorem rts_keys {l : List (D × D)} {xs : List (List Int × Addr × V)} (r : RTs K H l xs) : RVs K H (l.map (·.1)) (xs.map fun x => V.ref x.2.1) := by
  induction r with
  | nil => exact .nil
  | @cons k b d v l xs hk _ _ ih =>
    refine .cons (.tup hk ?_) ih
    have go : ∀ k : List Int, RVs K H (k.map D.int) (k.map V.int) := fun k => by
      induction k with
      | nil => exact .nil
      | cons i k ih => exact .cons (.int i) ih
    exact go k
theorem rts_put {l : List (D × D)} {xs : List (List Int × Addr × V)} (r : RTs K H l xs) (ks : List Int) {b : Addr} {d : D} {v : V} (hk : TpS K H b (ks.map V.int)) (rv : RV K H d v) : RTs K H (putk l (tpI ks) d) (putX xs ks b v) := by
  unfold putk putX
  rw [rts_any r ks]
  cases xs.any fun x => decide (x.1 = ks) with
  | true =>
    show RTs K H (l.map fun p => if eqF 12 p.1 (tpI ks) = true then (p.1, d) else p) (xs.map fun x => if x.1 = ks then (x.1, x.2.1, v) else x)
    induction r with
    | nil => exact .nil
    | @cons k0 b0 d0 v0 l xs hk0 rv0 _ ih =>
      rw [List.map_cons, List.map_cons, eqF_tpI]
      by_cases e : k0 = ks
      · simp only [e, decide_true, if_true]
        subst e
        exact .cons hk0 rv ih
      · simp only [e, decide_false, if_false, Bool.false_eq_true]
        exact .cons hk0 rv0 ih
  | false =>
    show RTs K H (l ++ [(tpI ks, d)]) (xs ++ [(ks, b, v)])
    induction r with
    | nil => exact .cons hk rv .nil
    | cons h1 h2 _ ih => exact .cons h1 h2 ih
theorem tdR_any {xs : List (List Int × Addr × V)} {ys : List (List Key × Addr × Value)} (p : Paired tdR xs ys) (ks : List Int) : (xs.any fun x => decide (x.1 = ks)) = (atKey ys (ikey ks)).isSome := by
  induction p with
  | nil => rfl
  | @cons x q xs qs h t ih =>
    rw [List.any_cons, ih]
    by_cases e : x.1 = ks
    · have : atKey (q :: qs) (ikey ks) = some q.2 := by simp [atKey, List.find?_cons, h.1, e]
      rw [this, decide_eq_true e]; rfl
    · have e' : ¬ q.1 = ikey ks := fun z => e (ikey_inj (h.1.symm.trans z))
      have b : atKey (q :: qs) (ikey ks) = atKey qs (ikey ks) := by simp [atKey, List.find?_cons, e']
      rw [b, decide_eq_false e]; rfl
theorem tdR_put {xs : List (List Int × Addr × V)} {ys : List (List Key × Addr × Value)} (p : Paired tdR xs ys) (ks : List Int) (b : Addr) {v : V} {u : Value} (rv : RelV v u) : Paired tdR (putX xs ks b v) (storedH ys (ikey ks) b u) := by
  unfold putX storedH
  rw [tdR_any p ks]
  cases (atKey ys (ikey ks)).isSome with
  | true =>
    rw [if_pos rfl, if_pos rfl]
    induction p with
    | nil => exact .nil
    | @cons x q xs qs h t ih =>
      rw [List.map_cons, List.map_cons]
      refine .cons ?_ ih
      unfold putAt
      by_cases e : x.1 = ks
      · rw [if_pos e, if_pos (by rw [h.1, e])]
        exact ⟨h.1, h.2.1, rv⟩
      · rw [if_neg e, if_neg (fun z => e (ikey_inj (h.1.symm.trans z)))]
        exact h
  | false =>
    rw [if_neg (by simp), if_neg (by simp)]
    exact Paired.snoc p ⟨rfl, rfl, rv⟩
end
section
variable {X : Cx} {pins : List (Addr × Obj)} {σ : L2.St} {H : Hp} {s : Shared} {a : Addr}
theorem td_is (I : Inv X pins σ H s) {ks : List Int} {b : Addr} (h : SqT X.K H b (ks.map V.int)) : (tupleKind (mixKind X.prog X.w)).is s.heap (ikey ks) b := by
  obtain ⟨its, r, ⟨o, h1, h2, n, h3⟩, _⟩ := I.tuple h
  refine ⟨o, its.toArray, n, h1, h2, h3, ?_⟩
  rw [← ikey_V] at r
  simpa using items_are r
theorem td_dict (I : Inv X pins σ H s) {xs : List (List Int × Addr × V)} {l : List (D × D)} (e : H a = some (.ext (tdφ a xs))) (r : RTs X.K H l xs) : ∃ ys, Paired tdR xs ys ∧ s.heap.DictOfH (tupleKind (mixKind X.prog X.w)) a ys := by
  obtain ⟨⟨P, w, ys, hp, o, es, ep, h1, h2, h3, h4, h5⟩, g1, g2⟩ := I.hok a _ e
  clear g2
  refine ⟨ys, hp, o, es, ep, h1, h2, h3, ?_, ?_, h5⟩
  · rw [h4]
    refine List.map_congr_left fun y hy => ?_
    have hk : ∃ ks, y.1 = ikey ks := by
      clear h4 h5 r e
      induction hp with
      | nil => cases hy
      | @cons x q xs qs h t ih =>
        rcases List.mem_cons.1 hy with rfl | hy
        · exact ⟨_, h.1⟩
        · exact ih hy
    obtain ⟨ks, hk⟩ := hk
    unfold entryOfKey
    rw [hk, hash_same (P' := X.prog) (w' := X.w)]
  · clear h4 h5 e
    intro y hy
    induction r generalizing ys with
    | nil => cases hp; cases hy
    | cons hk _ _ ih =>
      cases hp with
      | cons h t =>
        rcases List.mem_cons.1 hy with rfl | hy
        · rw [h.1, h.2.1]
          exact td_is I hk.sq
        · exact ih _ t hy
theorem dh_empty (I : Inv X pins σ H s) (e : H a = some (.dK [])) : (a == sysModules) = false ∧ s.heap.DictOfH (tupleKind (mixKind X.prog X.w)) a [] := by
  obtain ⟨z, hd, vs, rel, dd⟩ := dk_of I.hok e
  have : vs = [] := by cases rel; rfl
  subst this
  obtain ⟨o, es, ep, h1, h2, h3, _, h4, h5⟩ := dd
  have h6 : es.toList = [] := by
    cases q : es.toList with
    | nil => rfl
    | cons _ _ => rw [q] at h4; cases h4
  exact ⟨hd, o, es, ep, h1, h2, h3, by rw [h6]; rfl, (fun x hx => nomatch hx), .nil⟩
theorem td_getItem {A : Around} {E : Value → Shared → Prop} {Q : Value → Shared → Prop} (hu : A.units + 1 < cLine) (I : Inv X pins σ H s) {ys : List (List Key × Addr × Value)} (dd : s.heap.DictOfH (tupleKind (mixKind X.prog X.w)) a ys) {ks : List Int} {b : Addr} (hb : SqT X.K H b (ks.map V.int)) {q : Addr × Value} (hq : atKey ys (ikey ks) = some q)
    (h : ∀ s', Inv X pins σ H s' → Q q.2 s') : wpAny (model X.prog X.w) A (getItem (.ref a) (.ref b)) Q E s :=
  wpAny_getItem_heap (tupleKind_room_in1 hu) (td_is I hb) dd hq (h _ (I.tok _))
theorem td_in {A : Around} {E : Value → Shared → Prop} {Q : Value → Shared → Prop} (hu : A.units + 1 < cLine) (I : Inv X pins σ H s) {ys : List (List Key × Addr × Value)} (hd : (a == sysModules) = false) (dd : s.heap.DictOfH (tupleKind (mixKind X.prog X.w)) a ys) {ks : List Int} {b : Addr} (hb : SqT X.K H b (ks.map V.int))
    (h : ∀ s', Inv X pins σ H s' → Q (.bool (atKey ys (ikey ks)).isSome) s') : wpAny (model X.prog X.w) A (compareOp .In (.ref b) (.ref a)) Q E s :=
  wpAny_in_heap (tupleKind_room_in1 hu) (td_is I hb) hd dd (h _ (I.tok _))
theorem td_notIn {A : Around} {E : Value → Shared → Prop} {Q : Value → Shared → Prop} (hu : A.units + 1 < cLine) (I : Inv X pins σ H s) {ys : List (List Key × Addr × Value)} (hd : (a == sysModules) = false) (dd : s.heap.DictOfH (tupleKind (mixKind X.prog X.w)) a ys) {ks : List Int} {b : Addr} (hb : SqT X.K H b (ks.map V.int))
    (h : ∀ s', Inv X pins σ H s' → Q (.bool (!(atKey ys (ikey ks)).isSome)) s') : wpAny (model X.prog X.w) A (compareOp .NotIn (.ref b) (.ref a)) Q E s :=
  wpAny_notIn_heap (tupleKind_room_in1 hu) (td_is I hb) hd dd (h _ (I.tok _))
theorem td_setItem {A : Around} {E : Value → Shared → Prop} {Q : Unit → Shared → Prop} (hu : A.units + 1 < cLine) (I : Inv X pins σ H s) (mu : Mut (H a)) {xs : List (List Int × Addr × V)} {ys : List (List Key × Addr × Value)} (hp : Paired tdR xs ys) (dd : s.heap.DictOfH (tupleKind (mixKind X.prog X.w)) a ys) {ks : List Int} {b : Addr} (hb : SqT X.K H b (ks.map V.int)) (hz : xs.length ≤ sizeLine) {v : V} {u : Value} (rv : RelV v u)
    (h : ∀ s', Inv X pins σ (L2.upd H a (.ext (tdφ a (putX xs ks b v)))) s' → Q () s') : wpAny (model X.prog X.w) A (setItem (.ref a) (.ref b) u) Q E s := by
  refine wpAny_setItem_heap (hsz := by rw [← Paired.length hp]; exact hz) (tupleKind_room_in1 hu) (td_is I hb) dd fun h' dd' hs => h _ ?_
  obtain ⟨q, es, ep, hq, h2, h3, h4, _, h5⟩ := dd'
  refine d_write I mu hs ⟨q, hq⟩ ⟨⟨X.prog, X.w, _, tdR_put hp ks b rv, q, es, ep, hq, h2, h3, h4, h5⟩, ⟨q, hq⟩, ?_⟩
  rintro h1 h2 ⟨P, w, ys', p, o, es', ep', g1, g2, g3, g4, g5⟩ keep
  exact ⟨P, w, ys', p, o, es', ep', keep _ g1, g2, g3, g4, g5⟩
/-- list(d): its keys -/
theorem kdl_raw {prog : Program} {w : World} {d : Addr} {es : Array DictEntry} {ep : Nat} (lo : (d == sysModules) = false) : PySem.W.KdlSrc prog w "dict" d d es.size (fun i v => ∃ hi : i < es.size, v = es[i].key) (fun h => h.DictRaw d es ep) where
  type := fun _ hm => hm.typeIs
  there := fun _ hm => let ⟨_, ho, _⟩ := hm; ⟨Heap.lt_size ho, Heap.lt_size ho⟩
  keep := fun _ _ hm hk => hm.at fun o e => hk d (.inl rfl) o e
  notList := by decide
  notTuple := by decide
  hint := fun _ _ _ _ hm hq => PySem.W.kdl_hint_dict hm.typeIs hq
  iter := fun _ s hh hm => ⟨_, _, (fun _ _ hq => wpAny_pyIter_dict_raw lo hm hq), Walks.rawKeys hh _ d (let ⟨_, ho, _⟩ := hm; Nat.ne_of_lt (Heap.lt_size ho)) es ep, ⟨⟨_, Heap.get?_push_size _ rfl, rfl, rfl⟩, hm.at fun _ e => Heap.get?_push_of_some _ e⟩⟩
theorem td_list (hc : X.calm = true) {Q : VK} (I : Inv X pins σ H s) {xs : List (List Int × Addr × V)} {l : List (D × D)} (e : H a = some (.ext (tdφ a xs))) (r : RTs X.K H l xs) (hd : (a == sysModules) = false) (hz : xs.length ≤ sizeLine)
    (q : ∀ p, H p = none → Q (.ref p) (L2.upd H p (.lst (xs.map fun x => V.ref x.2.1)))) : wpAny (model X.prog X.w) X.A (call (.type "list") [.ref a]) (EP X pins σ Q) X.xe s := by
  obtain ⟨ys, hp, dd⟩ := td_dict I e r
  obtain ⟨es, ep, raw, hs, hx⟩ := dd.raw
  have hl := Paired.length hp
  refine PySem.W.kdl_call (kdl_raw (es := es) (ep := ep) hd) (I.ok.hd hc) raw (by omega) fun h' tk acc c' hk hD hacc => ?_
  have hv : Vals (xs.map fun x => V.ref x.2.1) acc.toList := by
    have hn : acc.toList.length = xs.length := by rw [Array.length_toList, hacc.1]; omega
    have hkey : ∀ (j : Nat) (v : Value), acc.toList[j]? = some v → ∃ x, xs[j]? = some x ∧ v = Value.ref x.2.1 := fun j v ev => by
      obtain ⟨hi, rfl⟩ := hacc.2 j v (by rw [← Array.getElem?_toList]; exact ev)
      obtain ⟨y, hy, h1, _, _⟩ := hx j hi
      have go : ∀ {xs : List (List Int × Addr × V)} {ys : List (List Key × Addr × Value)}, Paired tdR xs ys → ∀ (j : Nat) y, ys[j]? = some y → ∃ x, xs[j]? = some x ∧ y.2.1 = x.2.1 := fun {xs ys} h => by
        induction h with
        | nil => intro j y h; simp at h
        | @cons x q xs qs h t ih =>
          intro j y hy
          cases j with
          | zero => simp at hy; subst hy; exact ⟨x, by simp, h.2.1⟩
          | succ j => simpa using ih j y (by simpa using hy)
      obtain ⟨x, hx1, hx2⟩ := go hp j y hy
      exact ⟨x, hx1, by rw [h1, hx2]⟩
    have go : ∀ (xs : List (List Int × Addr × V)) (us : List Value), us.length = xs.length → (∀ (j : Nat) (v : Value), us[j]? = some v → ∃ x, xs[j]? = some x ∧ v = Value.ref x.2.1) → Vals (xs.map fun x => V.ref x.2.1) us := fun xs => by
      induction xs with
      | nil => intro us h _; cases us with
        | nil => exact .nil
        | cons _ _ => simp at h
      | cons x xs ih =>
        intro us h hk
        cases us with
        | nil => simp at h
        | cons u us =>
          obtain ⟨x', e1, e2⟩ := hk 0 u (by simp)
          simp at e1
          subst e1
          refine .cons ?_ (ih us (by simpa using h) fun j v e => by simpa using hk (j + 1) v (by simpa using e))
          rw [e2]; exact rfl
    exact go xs _ hn hkey
  exact ⟨.ref s.heap.objs.size, L2.upd H s.heap.objs.size (.lst (xs.map fun x => V.ref x.2.1)), I.laid (t' := tk) hk (Nat.le_refl _)
    (show ObjOk X.prog X.w _ _ _ (.lst (xs.map fun x => V.ref x.2.1)) from ⟨by rw [List.length_map]; exact hz, acc.toList, c', hv, by rw [Array.toArray_toList]; exact hD⟩), rfl, q _ (I.hok.fresh (Nat.le_refl _))⟩
theorem td_len {Q : VK} (I : Inv X pins σ H s) {xs : List (List Int × Addr × V)} {l : List (D × D)} (e : H a = some (.ext (tdφ a xs))) (r : RTs X.K H l xs) (hd : (a == sysModules) = false) (hz : xs.length ≤ sizeLine)
    (q : Q (.int (xs.length : Nat)) H) : wpAny (model X.prog X.w) X.A (call (.builtin "len") [.ref a]) (EP X pins σ Q) X.xe s := by
  obtain ⟨ys, hp, dd⟩ := td_dict I e r
  have hl := Paired.length hp
  rw [sizeLine_eq] at hz
  refine call_len_dictH hd dd (by omega) ⟨.int (xs.length : Nat), H, I.tok _, ⟨_, by rw [hl]⟩, q⟩
end
end Ev
set_option Elab.async false
set_option linter.all false
set_option maxRecDepth 100000
set_option maxHeartbeats 1000000
/-! EvB5: comparisons, items, slices, calls of built-ins, as rules. -/
namespace Ev
open PySem PySem.Spec PyProof.Rows L2
section
variable {X : Cx}
theorem lexI_eq : ∀ l m : List Int, lexI l m = HT.lexLt l m
  | [], [] => rfl
  | [], _ :: _ => rfl
  | _ :: _, [] => rfl
  | x :: r, y :: t => by
    rw [HT.lexLt_cons, lexI, lexI_eq r t]
theorem op_cmp (hu : X.A.units + 66 < cLine) (op : Cop) : OpR X (compareOp (copOf op)) (rCmp X.K op) := by
  intro pins s σ H x y v u Q I rx ry ⟨a, b, S, Kb, ra, rb, rs, h, aft⟩
  cases op with
  | eq =>
    obtain ⟨d, e, hd, he, sd, se, k⟩ := eqW_data rs ra rb h
    exact op_eqD (by omega) pins s σ H x y v u Q I rx ry ⟨d, e, hd, he, sd, se, aft _ k⟩
  | ne =>
    obtain ⟨d, e, hd, he, sd, se, k⟩ := eqW_data (Kb := fun c => Kb (!c)) rs ra rb h
    exact op_neD (by omega) pins s σ H x y v u Q I rx ry ⟨d, e, hd, he, sd, se, aft _ k⟩
  | is =>
    obtain ⟨hb, k⟩ := h
    subst hb
    cases rb
    refine op_isN pins s σ H x _ v u Q I rx ry ⟨rfl, ?_⟩
    cases ra <;> exact aft _ k
  | isnot =>
    obtain ⟨hb, k⟩ := h
    subst hb
    cases rb
    refine op_notN pins s σ H x _ v u Q I rx ry ⟨rfl, ?_⟩
    cases ra <;> exact aft _ k
  | lt =>
    cases ra with
    | int i =>
      cases rb with
      | int j => exact op_lt pins s σ H _ _ v u Q I rx ry ⟨i, j, rfl, rfl, aft _ h⟩
      | _ => exact h.elim
    | @tup l p xs hp rl =>
      cases rb with
      | @tup m q ys hq rm =>
        obtain ⟨ns, e1, ms, e2, k⟩ := h
        have z1 := rl.ints e1
        have z2 := rm.ints e2
        subst z1
        subst z2
        refine op_ltT (by omega) pins s σ H _ _ v u Q I rx ry ⟨p, q, ns, ms, rfl, rfl, hp.sq, hq.sq, ?_⟩
        rw [← lexI_eq]
        exact aft _ k
      | _ => exact h.elim
    | _ => cases rb <;> exact h.elim
  | le =>
    cases ra with
    | int i =>
      cases rb with
      | int j => exact op_le pins s σ H _ _ v u Q I rx ry ⟨i, j, rfl, rfl, aft _ h⟩
      | _ => exact h.elim
    | _ => cases rb <;> exact h.elim
  | gt =>
    cases ra with
    | int i =>
      cases rb with
      | int j => exact op_gt pins s σ H _ _ v u Q I rx ry ⟨i, j, rfl, rfl, aft _ h⟩
      | _ => exact h.elim
    | _ => cases rb <;> exact h.elim
  | ge =>
    cases ra with
    | int i =>
      cases rb with
      | int j => exact op_ge pins s σ H _ _ v u Q I rx ry ⟨i, j, rfl, rfl, aft _ h⟩
      | _ => exact h.elim
    | _ => cases rb <;> exact h.elim
  | inn =>
    cases rb with
    | @tup m q ys hq rm =>
      obtain ⟨f, k⟩ := h
      rw [Bool.and_eq_true] at f
      obtain ⟨as, r1⟩ := Dp.reads I (pd a) x v (fin_dp ra f.1) rx
      obtain ⟨bs, r2⟩ := Dp.reads I (.tuple (pds m)) (.ref q) u (.tup hq.sq (fin_dps rm f.2)) ry
      have hl := fin_lay f.1
      have hl2 := fin_lays f.2
      refine SeqAt.in_tuple_reads r2 r1 hl2.1 hl.1 (by omega) ⟨.bl _, H, I, rfl, ?_⟩
      rw [any_eqvL f.1 f.2]
      exact aft _ k
    | @fz m q ys hq rm =>
      obtain ⟨f, k⟩ := h
      rw [Bool.and_eq_true] at f
      refine op_inD (by omega) pins s σ H x _ v u Q I rx ry ⟨pd a, pds m, fin_dp ra f.1, .lst hq.sq (fin_dps rm f.2), fin_shaped f.1, fin_shapedL f.2, ?_⟩
      rw [any_eqvL f.1 f.2]
      exact aft _ k
    | ref n =>
      have h' : (match S n with
        | some (.lst l) => (fin 12 a && l.all (fin 12)) = true ∧ Kb (l.any fun y => eqF 12 y a)
        | some (.dic kv) => (isKey a = true ∧ Kb (hask kv a)) ∨ (isTk a = true ∧ kv = [] ∧ Kb false)
        | some (.dit kv) => isTk a = true ∧ Kb (hask kv a)
        | _ => False) := h
      cases e : S n with
      | none => rw [e] at h'; exact h'.elim
      | some o =>
        rw [e] at h'
        cases o with
        | lst m =>
          obtain ⟨f, k⟩ := h'
          rw [Bool.and_eq_true] at f
          obtain ⟨ys, hq, rm⟩ := lst_of rs e
          refine op_inD (by omega) pins s σ H x _ v u Q I rx ry ⟨pd a, pds m, fin_dp ra f.1, .lst (.of hq) (fin_dps rm f.2), fin_shaped f.1, fin_shapedL f.2, ?_⟩
          rw [any_eqvL f.1 f.2]
          exact aft _ k
        | dic kv =>
          cases ry
          rcases h' with ⟨f, k⟩ | ⟨f, rfl, k⟩
          · rw [hask_getk] at k
            rcases dic_get rs e ra f with ⟨g1, g⟩ | ⟨y, w, g1, g, _⟩
            · rw [g1] at k
              exact d_in (by omega) I g rx fun s' I' => ⟨.bl false, H, I', rfl, aft _ k⟩
            · rw [g1] at k
              exact d_in (by omega) I g rx fun s' I' => ⟨.bl true, H, I', rfl, aft _ k⟩
          · obtain ⟨kv, e2, rk⟩ := rs n _ e
            cases rk
            obtain ⟨hd, dd⟩ := dh_empty I e2
            obtain ⟨ks, b, rfl, rfl, hb⟩ := key_tk ra f
            obtain rfl : v = Value.ref b := rx
            exact td_in (by omega) I hd dd hb.sq fun s' I' => ⟨.bl false, H, I', rfl, aft _ k⟩
        | dit kv =>
          obtain ⟨f, k⟩ := h'
          cases ry
          obtain ⟨xs, e2, ⟨hd, hz⟩, rk⟩ := rs n _ e
          obtain ⟨ks, b, rfl, rfl, hb⟩ := key_tk ra f
          obtain rfl : v = Value.ref b := rx
          obtain ⟨ys, hp, dd⟩ := td_dict I e2 rk
          rw [hask_getk] at k
          refine td_in (by omega) I hd dd hb.sq fun s' I' => ⟨.bl _, H, I', rfl, ?_⟩
          rcases rts_has rk hp ks with ⟨g1, g2⟩ | ⟨d, w, q, g1, g2, _, _⟩
          · rw [g1] at k
            rw [g2]
            exact aft _ k
          · rw [g1] at k
            rw [g2]
            exact aft _ k
        | ins c f => exact h'.elim
    | _ => exact h.elim
  | notin =>
    cases rb with
    | @tup m q ys hq rm =>
      obtain ⟨f, k⟩ := h
      rw [Bool.and_eq_true] at f
      obtain ⟨as, r1⟩ := Dp.reads I (pd a) x v (fin_dp ra f.1) rx
      obtain ⟨bs, r2⟩ := Dp.reads I (.tuple (pds m)) (.ref q) u (.tup hq.sq (fin_dps rm f.2)) ry
      have hl := fin_lay f.1
      have hl2 := fin_lays f.2
      refine SeqAt.notIn_tuple_reads r2 r1 hl2.1 hl.1 (by omega) ⟨.bl _, H, I, rfl, ?_⟩
      rw [any_eqvL f.1 f.2]
      exact aft _ k
    | @fz m q ys hq rm =>
      obtain ⟨f, k⟩ := h
      rw [Bool.and_eq_true] at f
      refine op_notInD (by omega) pins s σ H x _ v u Q I rx ry ⟨pd a, pds m, fin_dp ra f.1, .lst hq.sq (fin_dps rm f.2), fin_shaped f.1, fin_shapedL f.2, ?_⟩
      rw [any_eqvL f.1 f.2]
      exact aft _ k
    | ref n =>
      have h' : (match S n with
        | some (.lst l) => (fin 12 a && l.all (fin 12)) = true ∧ Kb (!l.any fun y => eqF 12 y a)
        | some (.dic kv) => (isKey a = true ∧ Kb (!hask kv a)) ∨ (isTk a = true ∧ kv = [] ∧ Kb (!false))
        | some (.dit kv) => isTk a = true ∧ Kb (!hask kv a)
        | _ => False) := h
      cases e : S n with
      | none => rw [e] at h'; exact h'.elim
      | some o =>
        rw [e] at h'
        cases o with
        | lst m =>
          obtain ⟨f, k⟩ := h'
          rw [Bool.and_eq_true] at f
          obtain ⟨ys, hq, rm⟩ := lst_of rs e
          refine op_notInD (by omega) pins s σ H x _ v u Q I rx ry ⟨pd a, pds m, fin_dp ra f.1, .lst (.of hq) (fin_dps rm f.2), fin_shaped f.1, fin_shapedL f.2, ?_⟩
          rw [any_eqvL f.1 f.2]
          exact aft _ k
        | dic kv =>
          cases ry
          rcases h' with ⟨f, k⟩ | ⟨f, rfl, k⟩
          · rw [hask_getk] at k
            rcases dic_get rs e ra f with ⟨g1, g⟩ | ⟨y, w, g1, g, _⟩
            · rw [g1] at k
              exact d_notIn (by omega) I g rx fun s' I' => ⟨.bl true, H, I', rfl, aft _ k⟩
            · rw [g1] at k
              exact d_notIn (by omega) I g rx fun s' I' => ⟨.bl false, H, I', rfl, aft _ k⟩
          · obtain ⟨kv, e2, rk⟩ := rs n _ e
            cases rk
            obtain ⟨hd, dd⟩ := dh_empty I e2
            obtain ⟨ks, b, rfl, rfl, hb⟩ := key_tk ra f
            obtain rfl : v = Value.ref b := rx
            exact td_notIn (by omega) I hd dd hb.sq fun s' I' => ⟨.bl true, H, I', rfl, aft _ k⟩
        | dit kv =>
          obtain ⟨f, k⟩ := h'
          cases ry
          obtain ⟨xs, e2, ⟨hd, hz⟩, rk⟩ := rs n _ e
          obtain ⟨ks, b, rfl, rfl, hb⟩ := key_tk ra f
          obtain rfl : v = Value.ref b := rx
          obtain ⟨ys, hp, dd⟩ := td_dict I e2 rk
          rw [hask_getk] at k
          refine td_notIn (by omega) I hd dd hb.sq fun s' I' => ⟨.bl _, H, I', rfl, ?_⟩
          rcases rts_has rk hp ks with ⟨g1, g2⟩ | ⟨d, w, q, g1, g2, _, _⟩
          · rw [g1] at k
            rw [g2]
            exact aft _ k
          · rw [g1] at k
            rw [g2]
            exact aft _ k
        | ins c f => exact h'.elim
    | _ => exact h.elim
end
end Ev
set_option Elab.async false
set_option linter.all false
set_option maxRecDepth 100000
set_option maxHeartbeats 1000000
/-! EvB6: items, slices, isinstance, built-ins and methods. -/
namespace Ev
open PySem PySem.Spec PyProof.Rows L2
/-- one look at a sum of cases over the store -/
theorem sto_cases {S : Sto} {n : Nat} : S n = none ∨ (∃ l, S n = some (.lst l)) ∨ (∃ l, S n = some (.dic l)) ∨ (∃ c f, S n = some (.ins c f)) ∨ ∃ l, S n = some (.dit l) := by
  cases h : S n with
  | none => exact .inl rfl
  | some o =>
    cases o with
    | lst l => exact .inr (.inl ⟨l, rfl⟩)
    | dic l => exact .inr (.inr (.inl ⟨l, rfl⟩))
    | ins c f => exact .inr (.inr (.inr (.inl ⟨c, f, rfl⟩)))
    | dit l => exact .inr (.inr (.inr (.inr ⟨l, rfl⟩)))
def rIdx (K : PySem.W.Frag) : R2 := fun x y H Q => ∃ a b S Kd, RV K H a x ∧ RV K H b y ∧ RepS K S H ∧ idxW a b S Kd ∧ ∀ d v, Kd d → RV K H d v → Q v H
section
variable {X : Cx}
theorem ix_any (hu : X.A.units + 66 < cLine) : IxR X (rIdx X.K) := by
  intro value slice pins s σ H x y v u Q I rx ry ⟨a, b, S, Kd, ra, rb, rs, h, aft⟩ hs
  cases ra with
  | @tup l p xs hp rl =>
    cases rb with
    | int k =>
      obtain ⟨d, e, kk⟩ := h
      obtain ⟨w, e2, r⟩ := rl.nth e
      exact ix_tup value slice pins s σ H _ _ v u Q I rx ry ⟨p, xs, k, w, rfl, rfl, hp.sq, e2, aft d w kk r⟩ hs
    | _ => exact h.elim
  | @fz l p xs hp rl =>
    cases rb with
    | int k =>
      obtain ⟨d, e, kk⟩ := h
      obtain ⟨w, e2, r⟩ := rl.nth e
      exact ix_list value slice pins s σ H _ _ v u Q I rx ry ⟨p, xs, k, w, rfl, rfl, hp.sq, e2, aft d w kk r⟩ hs
    | _ => exact h.elim
  | ref n =>
    rcases sto_cases (S := S) (n := n) with e | ⟨l, e⟩ | ⟨l, e⟩ | ⟨c, f, e⟩ | ⟨l, e⟩
    · cases b <;> (simp only [idxW, e] at h)
    · cases rb with
      | int k =>
        simp only [idxW, e] at h
        obtain ⟨d, e2, kk⟩ := h
        obtain ⟨xs, hx, rl⟩ := lst_of rs e
        obtain ⟨w, e3, r⟩ := rl.nth e2
        exact ix_list value slice pins s σ H _ _ v u Q I rx ry ⟨n, xs, k, w, rfl, rfl, .of hx, e3, aft d w kk r⟩ hs
      | _ => simp only [idxW, e] at h
    · have h' : isKey b = true ∧ ofO (getk l b) Kd := by
        cases b <;> (simp only [idxW, e] at h; exact h)
      obtain ⟨hk, d, e2, kk⟩ := h'
      rcases dic_get rs e rb hk with ⟨g1, g⟩ | ⟨y', w, g1, g, r⟩
      · rw [g1] at e2; cases e2
      · rw [g1] at e2
        cases e2
        cases rx
        exact tail_any (dict_typeIs I g) PySem.F.slot_dict_getitem.lookup (d_getItem (by omega) I g ry fun w' s' I' r' => ⟨w, H, I', r', aft _ w kk r⟩) hs
    · cases b <;> (simp only [idxW, e] at h)
    · have h' : isTk b = true ∧ ofO (getk l b) Kd := by
        cases b <;> (simp only [idxW, e] at h; exact h)
      obtain ⟨hk, d, e3, kk⟩ := h'
      obtain ⟨xs, e2, ⟨hd, hz⟩, rk⟩ := rs n _ e
      obtain ⟨ks, b2, rfl, rfl, hb⟩ := key_tk rb hk
      obtain rfl : u = Value.ref b2 := ry
      obtain ⟨ys, hp, dd⟩ := td_dict I e2 rk
      rcases rts_has rk hp ks with ⟨g1, g2⟩ | ⟨d', w, q, g1, g2, g3, g4⟩
      · rw [g1] at e3; cases e3
      · rw [g1] at e3
        cases e3
        cases rx
        exact tail_any dd.typeIs PySem.F.slot_dict_getitem.lookup (td_getItem (by omega) I dd hb.sq g2 fun s' I' => ⟨w, H, I', g3, aft _ w kk g4⟩) hs
  | _ => cases rb <;> exact h.elim
theorem get_any (hu : X.A.units + 66 < cLine) : PGet X (rIdx X.K) := by
  intro pins s σ H x y v u Q I rx ry ⟨a, b, S, Kd, ra, rb, rs, h, aft⟩
  cases ra with
  | @tup l p xs hp rl =>
    cases rb with
    | int k =>
      obtain ⟨d, e, kk⟩ := h
      obtain ⟨w, e2, r⟩ := rl.nth e
      obtain ⟨j, h1, h2, h3, h4, h5⟩ := atI_get e2
      cases rx
      obtain ⟨t, rfl⟩ := ry
      obtain ⟨its, r2, pl, hz⟩ := I.tuple hp.sq
      obtain ⟨w', ew, rw'⟩ := r2.get h2
      have hl := r2.length
      have hn := line63
      exact getItem_tuple (j := j) pl (by omega) (by omega) (by rw [List.size_toArray, ← hl]; exact h1) (by simpa using ew) ⟨w, H, I, rw', aft d w kk r⟩
    | _ => exact h.elim
  | @fz l p xs hp rl =>
    cases rb with
    | int k =>
      obtain ⟨d, e, kk⟩ := h
      obtain ⟨w, e3, r⟩ := rl.nth e
      obtain ⟨j, h1, h2, h3, h4, h5⟩ := atI_get e3
      cases rx
      obtain ⟨t, rfl⟩ := ry
      obtain ⟨its, r2, pl, hz⟩ := I.list hp.sq
      obtain ⟨w', ew, rw'⟩ := r2.get h2
      have hl := r2.length
      have hn := line63
      have fin : EP X pins σ Q w' s := ⟨w, H, I, rw', aft d w kk r⟩
      by_cases h0 : 0 ≤ k
      · have hj : k.toNat = j := by
          rw [seqIndex_of h0 h5] at h1
          exact Option.some.inj h1
        exact wpAny_getItem_list pl.isList h0 (by omega) (by rw [hj]; simpa using ew) fin
      · have hj : (k + (its.toArray.size : Int)).toNat = j := by
          rw [seqIndex_neg (by omega) h4] at h1
          rw [List.size_toArray, ← hl]
          exact Option.some.inj h1
        exact wpAny_getItem_list_neg pl.isList (by omega) (by rw [List.size_toArray] <;> omega) (by omega) (by rw [hj]; simpa using ew) fin
    | _ => exact h.elim
  | ref n =>
    rcases sto_cases (S := S) (n := n) with e | ⟨l, e⟩ | ⟨l, e⟩ | ⟨c, f, e⟩ | ⟨l, e⟩
    · cases b <;> (simp only [idxW, e] at h)
    · cases rb with
      | int k =>
        simp only [idxW, e] at h
        obtain ⟨d, e2, kk⟩ := h
        obtain ⟨xs, hx, rl⟩ := lst_of rs e
        obtain ⟨w, e3, r⟩ := rl.nth e2
        obtain ⟨j, h1, h2, h3, h4, h5⟩ := atI_get e3
        cases rx
        obtain ⟨t, rfl⟩ := ry
        obtain ⟨its, r2, pl, hz⟩ := I.list (SqL.of hx)
        obtain ⟨w', ew, rw'⟩ := r2.get h2
        have hl := r2.length
        have hn := line63
        have fin : EP X pins σ Q w' s := ⟨w, H, I, rw', aft d w kk r⟩
        by_cases h0 : 0 ≤ k
        · have hj : k.toNat = j := by
            rw [seqIndex_of h0 h5] at h1
            exact Option.some.inj h1
          exact wpAny_getItem_list pl.isList h0 (by omega) (by rw [hj]; simpa using ew) fin
        · have hj : (k + (its.toArray.size : Int)).toNat = j := by
            rw [seqIndex_neg (by omega) h4] at h1
            rw [List.size_toArray, ← hl]
            exact Option.some.inj h1
          exact wpAny_getItem_list_neg pl.isList (by omega) (by rw [List.size_toArray] <;> omega) (by omega) (by rw [hj]; simpa using ew) fin
      | _ => simp only [idxW, e] at h
    · have h' : isKey b = true ∧ ofO (getk l b) Kd := by
        cases b <;> (simp only [idxW, e] at h; exact h)
      obtain ⟨hk, d, e2, kk⟩ := h'
      rcases dic_get rs e rb hk with ⟨g1, g⟩ | ⟨y', w, g1, g, r⟩
      · rw [g1] at e2; cases e2
      · rw [g1] at e2
        cases e2
        cases rx
        exact d_getItem (by omega) I g ry fun w' s' I' r' => ⟨w, H, I', r', aft _ w kk r⟩
    · cases b <;> (simp only [idxW, e] at h)
    · have h' : isTk b = true ∧ ofO (getk l b) Kd := by
        cases b <;> (simp only [idxW, e] at h; exact h)
      obtain ⟨hk, d, e3, kk⟩ := h'
      obtain ⟨xs, e2, ⟨hd, hz⟩, rk⟩ := rs n _ e
      obtain ⟨ks, b2, rfl, rfl, hb⟩ := key_tk rb hk
      obtain rfl : u = Value.ref b2 := ry
      obtain ⟨ys, hp, dd⟩ := td_dict I e2 rk
      rcases rts_has rk hp ks with ⟨g1, g2⟩ | ⟨d', w, q, g1, g2, g3, g4⟩
      · rw [g1] at e3; cases e3
      · rw [g1] at e3
        cases e3
        cases rx
        exact td_getItem (by omega) I dd hb.sq g2 fun s' I' => ⟨w, H, I', g3, aft _ w kk g4⟩
  | _ => cases rb <;> exact h.elim

/-! ### stores -/
def rSub (K : PySem.W.Frag) : TSet := fun o i v H Q => ∃ a b d S Ks, RV K H a o ∧ RV K H b i ∧ RV K H d v ∧ RepS K S H ∧ subW a b d S Ks ∧ ∀ S' H', Ks S' → Ext S H S' H' → RepS K S' H' → Q H'
theorem set_any (hu : X.A.units + 66 < cLine) : PSet X (rSub X.K) := by
  intro pins s σ H o i v ov iv u Q I ro ri rv ⟨a, b, d, S, Ks, ra, rb, rd, rs, h, aft⟩
  cases ra with
  | ref n =>
    rcases sto_cases (S := S) (n := n) with e | ⟨l, e⟩ | ⟨l, e⟩ | ⟨c, f, e⟩ | ⟨l, e⟩
    · cases b <;> (simp only [subW, e] at h)
    · cases rb with
      | int k =>
        simp only [subW, e] at h
        obtain ⟨j, e2, kk⟩ := h
        obtain ⟨xs, hx, rl⟩ := lst_of rs e
        have st : Stay H (L2.upd H n (.lst (xs.set j v))) := stay_old hx trivial
        refine set_list pins s σ H _ _ v ov iv u Q I ro ri rv ⟨n, xs, k, j, rfl, rfl, hx, by rw [← ixn_eq, ← rl.len]; exact e2, ?_⟩
        exact aft _ _ kk (Ext.wrote e hx) (rs.wrote e hx trivial ⟨_, upd_same, (rl.set rd j).mono st⟩)
      | _ => simp only [subW, e] at h
    · have h' : (isKey b = true ∧ l.length < line ∧ Ks (put S n (.dic (putk l b d)))) ∨ (isTk b = true ∧ l = [] ∧ Ks (put S n (.dit [(b, d)]))) := by
        cases b <;> (simp only [subW, e] at h; exact h)
      obtain ⟨kv, e2, rk⟩ := rs n _ e
      rcases h' with ⟨hk, hz, kk⟩ | ⟨hk, rfl, kk⟩
      · obtain ⟨k, rfl, rfl⟩ := key_of_d rb hk
        have st : Stay H (L2.upd H n (.dK (putK kv k v))) := stay_old e2 trivial
        refine set_dict (by omega) pins s σ H _ _ v ov iv u Q I ro ri rv ⟨n, _, rfl, DPut.k e2 (by rw [← line_eq, ← rks_len rk]; exact hz), ?_⟩
        exact aft _ _ kk (Ext.wrote e e2) (rs.wrote e e2 trivial ⟨_, upd_same, (rks_put rk k rd).mono st⟩)
      · cases rk
        obtain ⟨ks, b2, rfl, rfl, hb⟩ := key_tk rb hk
        obtain rfl : iv = Value.ref b2 := ri
        obtain ⟨hd, dd⟩ := dh_empty I e2
        cases ro
        refine td_setItem (xs := []) (by omega) I (by rw [e2]; exact True.intro) .nil dd hb.sq (Nat.zero_le _) rv fun s' I' => ⟨_, I', ?_⟩
        have st : Stay H (L2.upd H n (.ext (tdφ n (putX [] ks b2 v)))) := stay_old e2 trivial
        refine aft _ _ kk (Ext.wrote e e2) (rs.wrote e e2 trivial ⟨_, upd_same, ⟨hd, ?_⟩, ?_⟩)
        · have := line_eq; unfold line at this; rw [← this]; exact Nat.le_of_ble_eq_true rfl
        · exact (RTs.cons hb rd .nil : RTs X.K H [(tpI ks, d)] [(ks, b2, v)]).mono st
    · cases b <;> (simp only [subW, e] at h)
    · have h' : isTk b = true ∧ l.length < line ∧ Ks (put S n (.dit (putk l b d))) := by
        cases b <;> (simp only [subW, e] at h; exact h)
      obtain ⟨hk, hz, kk⟩ := h'
      obtain ⟨xs, e2, ⟨hd, hz2⟩, rk⟩ := rs n _ e
      obtain ⟨ks, b2, rfl, rfl, hb⟩ := key_tk rb hk
      obtain rfl : iv = Value.ref b2 := ri
      obtain ⟨ys, hp, dd⟩ := td_dict I e2 rk
      cases ro
      refine td_setItem (by omega) I (by rw [e2]; exact True.intro) hp dd hb.sq hz2 rv fun s' I' => ⟨_, I', ?_⟩
      have st : Stay H (L2.upd H n (.ext (tdφ n (putX xs ks b2 v)))) := stay_old e2 trivial
      refine aft _ _ kk (Ext.wrote e e2) (rs.wrote e e2 trivial ⟨_, upd_same, ⟨hd, ?_⟩, (rts_put rk ks hb rd).mono st⟩)
      have h1 := putX_len xs ks b2 v
      have h2 := rts_len rk
      rw [← line_eq]
      omega
  | _ => cases rb <;> exact h.elim

/-! ### slices -/
def rSlc (K : PySem.W.Frag) : V → Option Int → Option Int → Hp → VK → Prop := fun x lo hi H Q => ∃ a S Kk, RV K H a x ∧ RepS K S H ∧ slcW a lo hi S Kk ∧ Aft K S H Kk Q
theorem slc_any : SlR X (rSlc X.K) := by
  intro pins s σ H x v vl vu lo hi sl Q I rx hs pl pu ⟨a, S, Kk, ra, rs, h, aft⟩
  cases ra with
  | @tup l p xs hp rl =>
    refine sl_tupN pins s σ H _ v vl vu lo hi sl Q I rx hs pl pu ⟨p, xs, rfl, hp.sq, fun hw => ?_, fun q o hq hd => aft.tup rs h (rl.cut lo hi) hq hd⟩
    refine aft.self rs h (.tup hp ?_)
    have e := rl.cut lo hi
    have z : cutV xs lo hi = xs := by
      unfold cutV
      rw [hw.1, hw.2]
      simp
    rw [z] at e
    exact e
  | @fz l n xs hp rl =>
    exact SlR.fr sl_list pins s σ H _ v vl vu lo hi sl Q I rx hs pl pu ⟨n, xs, rfl, hp.sq, fun p hp => aft.newl rs h (rl.cut lo hi) hp⟩
  | ref n =>
    rcases sto_cases (S := S) (n := n) with e | ⟨l, e⟩ | ⟨l, e⟩ | ⟨c, f, e⟩ | ⟨l, e⟩
    · simp only [slcW, e] at h
    · simp only [slcW, e] at h
      obtain ⟨xs, hx, rl⟩ := lst_of rs e
      exact SlR.fr sl_list pins s σ H _ v vl vu lo hi sl Q I rx hs pl pu ⟨n, xs, rfl, .of hx, fun p hp => aft.newl rs h (rl.cut lo hi) hp⟩
    · simp only [slcW, e] at h
    · simp only [slcW, e] at h
    · simp only [slcW, e] at h
  | _ => exact h.elim
end
end Ev
set_option Elab.async false
set_option linter.all false
set_option maxRecDepth 100000
set_option maxHeartbeats 1000000
/-! EvS: tuples of ints sorted, of any length; empty ones too. -/
namespace Ev
open PySem PySem.Spec PyProof.Rows L2 PySem.W

section
variable {prog : Program} {w : World} {A : Around} {E : Value → Shared → Prop} {s : Shared}
theorem call_tuple_lt0 {Q : Value → Shared → Prop} {l b : Addr} (hl : s.heap.IsTuple l #[]) (hb : s.heap.IsTuple b #[])
    (h : Q (.bool false) s) : wpAny (model prog w) A (call (.builtin "tuple.__lt__") [.ref l, .ref b]) Q E s := by
  obtain ⟨⟨cls, dd, data, sl⟩, ho, hc, n, hd⟩ := id hl
  obtain ⟨⟨cls2, dd2, data2, sl2⟩, ho2, hc2, n2, hd2⟩ := id hb
  simp only at hc hd hc2 hd2
  subst hc hd hc2 hd2
  exact call_meets F.slot_tuple_lt ⟨_, ho, rfl⟩ F.entry_tuple_lt (F.args_tuple_lt_2 _ _) (SeqAt.tuple_ltAt l b #[] #[] n n2 dd dd2 sl sl2 (fun _ => false) (fun _ => false)) ⟨ho, ho2, fun j h1 => absurd h1 (by simp), fun j h1 => absurd h1 (by simp), h⟩
theorem unit_is {h : Heap} {v : Value} {as : List Addr} (r : Reads h v (.tuple []) as) : ∃ a, v = .ref a ∧ h.IsTuple a #[] := by
  cases r with
  | @tuple l o vs n _ _ h1 h2 h3 h4 =>
    have n1 : vs.size = 0 := by simpa using SeqAt.ReadsAll.length _ _ _ h4
    have e : vs = #[] := Array.eq_empty_of_size_eq_zero n1
    subst e
    exact ⟨l, rfl, o, h1, h2, n, h3⟩
theorem oneLt_unit {Q : Bool → Shared → Prop} {a b : Value} {as bs : List Addr} (ra : Reads s.heap a (.tuple []) as) (rb : Reads s.heap b (.tuple []) bs) (hu : A.units < cLine) (hq : Q false s) : wpAny (model prog w) A (oneLt' true a b) Q E s := by
  obtain ⟨x, rfl, hx⟩ := unit_is ra
  obtain ⟨y, rfl, hy⟩ := unit_is rb
  rw [oneLt'_eq]
  simp only [if_true]
  refine wpAny_bind (wpAny_cRoomFor hu ?_)
  refine wpAny_bind (wpAny_callSpecialIfBound?_slot (T := "tuple") (by obtain ⟨o, h1, h2, _⟩ := hx; exact ⟨o, h1, h2⟩) F.slot_tuple_lt (call_tuple_lt0 hx hy ?_))
  exact wpAny_truthy_bool hq
theorem unit_kind {vs : List Value} {Q : SortKind → Shared → Prop} (h2 : 2 ≤ vs.length) (hv : ∀ v ∈ vs, ∃ as, Reads s.heap v (.tuple []) as) (h : Q oneType' s) : wpAny (model prog w) A (keyKind' vs.toArray) Q E s := by
  obtain ⟨v₁, v₂, rest, rfl⟩ : ∃ v₁ v₂ rest, vs = v₁ :: v₂ :: rest := by
    match vs, h2 with
    | [], h2 => simp at h2
    | [_], h2 => simp at h2
    | v₁ :: v₂ :: rest, _ => exact ⟨v₁, v₂, rest, rfl⟩
  have hT : ∀ v ∈ v₁ :: v₂ :: rest, Looks (model prog w) s.heap (typeOf v) (Value.type "tuple") := fun v m => by
    obtain ⟨as, r⟩ := hv v m
    exact looks_reads r
  rw [keyKind'_eq, List.mapM_toArray, map_eq_pure_bind]
  refine wpAny_bind (wpAny_bind (kas_mapM (r := none) _ (fun v m Q' hq => ?_) (wpAny_pure ?_)))
  · rw [kas_first_eq]
    refine wpAny_bind ((hT v m).here ?_)
    rw [if_neg (by decide)]
    obtain ⟨as, r⟩ := hv v m
    obtain ⟨x, rfl, o, h1, h2, n, h3⟩ := unit_is r
    refine wpAny_bind (listItems_at h1 h3 (wpAny_pure ?_))
    exact hq
  · rw [if_neg (by simp), if_neg (by simp)]
    rw [oneTypeOnly'_eq, List.mapM_toArray, map_eq_pure_bind]
    refine wpAny_bind (wpAny_bind (wpAny_bind (kas_mapM (r := Value.type "tuple") _ (fun v m Q' hq => (hT v m).here hq) (wpAny_pure ?_))))
    have hall : ((List.map (fun _ => Value.type "tuple") (v₁ :: v₂ :: rest)).toArray.all fun x => x == Value.type "tuple") = true := by
      simp only [List.all_toArray, List.all_map, List.all_eq_true]
      intro _ _
      exact beq_self_eq_true _
    have h0 : (List.map (fun _ => Value.type "tuple") (v₁ :: v₂ :: rest)).toArray[0]? = some (Value.type "tuple") := by simp
    rw [h0]
    simp only [hall, if_true]
    exact wpAny_pure (wpAny_pure h)

/-- data sorted, where all are alike and no tuple is empty or all are empty tuples -/
theorem sorted_any {β : Type} {vs : List Value} {bs : List β} {enc : β → PyData} {R : Value → β → Prop} {l : Addr} {Q : Value → Shared → Prop} (hl : s.heap.IsList l vs.toArray) (e : EachIs R vs bs) (er : EachIs (fun v b => ∃ as, Reads s.heap v (enc b) as) vs bs) (hal : AllAlike (bs.map enc))
    (hk : Sortable (bs.map enc) ∨ ∀ d, d ∈ bs.map enc → d = .tuple []) (hL : bs.length ≤ sizeLine)
    (hu : ∀ b, b ∈ bs → A.units + 2 + (enc b).depth < cLine) (hA : A.units + 2 < cLine) (h : ∀ out, out.length = bs.length → EachIs R out (bs.mergeSort (dataLe false enc)) → Q (.ref (s.heap.objs.size + 1)) { s with heap := sortedAll s.heap vs (List.toArray out) }) :
    wpAny (model prog w) A (call (.builtin "sorted") [.ref l]) Q E s := by
  rcases hk with hk | hk
  · exact sorted_data hl e er hal hk hL hu h
  · have er' : EachIs (fun v b => ∃ as, Reads (sortingHeap (copyHeap s.heap vs) (s.heap.objs.size + 1) vs) v (enc b) as) vs bs := er.mono fun _ _ ⟨as, r⟩ => ⟨as, PyProof.Rows.Reads.keeps (fun _ _ => sorting_copy_old) r⟩
    have em := each_map (R := fun v d => ∃ as, Reads (sortingHeap (copyHeap s.heap vs) (s.heap.objs.size + 1) vs) v d as) enc er'
    have all : ∀ v ∈ vs, ∃ as, Reads (sortingHeap (copyHeap s.heap vs) (s.heap.objs.size + 1) vs) v (.tuple []) as := fun v hv => by
      obtain ⟨d, hd, as, r⟩ := em.left v hv
      rw [hk d hd] at r
      exact ⟨as, r⟩
    refine sorted_vals (κ := dataKind (sortingHeap (copyHeap s.heap vs) (s.heap.objs.size + 1) vs) (bs.map enc)) hl ⟨fun v hv => ?_, oneType', ?_, fun h2 E Q hq => unit_kind h2 all hq⟩ (by rw [e.length]; exact hL) (h _ (by rw [sortVals_length false rfl]; exact e.length) (sortVals_data false e er' hal))
    · obtain ⟨d, hd, as, r⟩ := em.left v hv
      exact ⟨_, dataKind_some hal hd r⟩
    · intro E x y a b Q ha hb hq
      obtain ⟨d, as, hd, ra, rfl⟩ := dataKind_inv ha
      obtain ⟨d', as', hd', rb, rfl⟩ := dataKind_inv hb
      rw [hk d hd] at ra hq
      rw [hk d' hd'] at rb hq
      rw [keyLt'_oneType]
      refine oneLt_unit ra rb (by simpa [Around.in1] using hA) ?_
      have e0 : dataLt (.tuple []) (.tuple []) = false := by
        rw [dataLt_tuple, lex_irrefl]
      rw [← e0]
      exact hq
end
theorem lex_ints : ∀ x y : List Int, PyProof.Rows.lexLt itemOrd (keyToksAll (x.map .int)) (keyToksAll (y.map .int)) = lexI x y
  | [], [] => by rw [lex_irrefl]; rfl
  | [], y :: ys => by
    show PyProof.Rows.lexLt itemOrd (keyToksAll []) (keyToksAll (.int y :: ys.map .int)) = true
    rw [toks_all_cons]
    simp only [keyToksAll]
    rw [lex_diff (O := itemOrd) (by simp)]
    simp [itemLt]
  | x :: xs, [] => by
    show PyProof.Rows.lexLt itemOrd (keyToksAll (.int x :: xs.map .int)) (keyToksAll []) = false
    rw [toks_all_cons]
    simp only [keyToksAll]
    rw [lex_diff (O := itemOrd) (by simp)]
    simp [itemLt]
  | x :: xs, y :: ys => by
    show PyProof.Rows.lexLt itemOrd (keyToksAll (.int x :: xs.map .int)) (keyToksAll (.int y :: ys.map .int)) = if x = y then lexI xs ys else decide (x < y)
    rw [dataLt_cons (by simp [alike]), dataLt_int, lex_ints xs ys]
    by_cases h : x = y
    · subst h; simp [PyData.eqv]
    · simp [PyData.eqv, h]
def encT (t : List Int) : PyData := .tuple (t.map .int)
theorem le_tups : dataLe false encT = fun a b => !lexI b a := by
  rw [dataLe_eq]
  funext a b
  show (!dataLt (encT b) (encT a)) = _
  unfold encT
  rw [dataLt_tuple, lex_ints]
theorem lexI_irr : ∀ a : List Int, lexI a a = false
  | [] => rfl
  | x :: r => by show (if x = x then lexI r r else decide (x < x)) = false; rw [if_pos rfl]; exact lexI_irr r
theorem lexI_asym : ∀ a b : List Int, lexI a b = true → lexI b a = false
  | [], [], h => by cases h
  | [], _ :: _, _ => rfl
  | _ :: _, [], h => by cases h
  | x :: r, y :: t, h => by
    have h : (if x = y then lexI r t else decide (x < y)) = true := h
    show (if y = x then lexI t r else decide (y < x)) = false
    by_cases e : x = y
    · rw [if_pos e] at h
      rw [if_pos e.symm]
      exact lexI_asym r t h
    · rw [if_neg e] at h
      rw [if_neg (Ne.symm e)]
      have := of_decide_eq_true h
      exact decide_eq_false (by omega)
theorem lexI_le_trans : ∀ a b c : List Int, lexI b a = false → lexI c b = false → lexI c a = false
  | [], b, [], _, _ => rfl
  | [], b, _ :: _, _, _ => rfl
  | _ :: _, [], _, h, _ => by cases h
  | _ :: _, _ :: _, [], _, h => by cases h
  | x :: r, y :: t, z :: u, h1, h2 => by
    have h1 : (if y = x then lexI t r else decide (y < x)) = false := h1
    have h2 : (if z = y then lexI u t else decide (z < y)) = false := h2
    show (if z = x then lexI u r else decide (z < x)) = false
    by_cases e1 : y = x
    · rw [if_pos e1] at h1
      by_cases e2 : z = y
      · rw [if_pos e2] at h2
        rw [if_pos (e2.trans e1)]
        exact lexI_le_trans r t u h1 h2
      · rw [if_neg e2] at h2
        have := of_decide_eq_false h2
        rw [if_neg (by omega)]
        exact decide_eq_false (by omega)
    · rw [if_neg e1] at h1
      have := of_decide_eq_false h1
      by_cases e2 : z = y
      · rw [if_neg (by omega)]
        exact decide_eq_false (by omega)
      · rw [if_neg e2] at h2
        have := of_decide_eq_false h2
        rw [if_neg (by omega)]
        exact decide_eq_false (by omega)
theorem lexI_total (a b : List Int) : ((!lexI b a) || (!lexI a b)) = true := by
  cases h : lexI a b with
  | false => simp
  | true => rw [lexI_asym a b h]; rfl
section
variable {X : Cx}
theorem tps_get {K : PySem.W.Frag} {H : Hp} : ∀ {l : List D} {ys : List V} {z : List (List Int)}, RVs K H l ys → tps? l = some z → l = z.map tpI ∧ pds l = z.map encT
  | _, _, z, .nil, e => by
    have e' : some ([] : List (List Int)) = some z := e
    cases e'; exact ⟨rfl, rfl⟩
  | d :: l, _, z, .cons r t, e => by
    cases d with
    | tup m =>
      have e : (ints? m).bind (fun x => (tps? l).map (x :: ·)) = some z := e
      cases h1 : ints? m with
      | none => rw [h1] at e; cases e
      | some x =>
        cases h2 : tps? l with
        | none => rw [h1, h2] at e; cases e
        | some y =>
          rw [h1, h2] at e
          cases e
          obtain ⟨i1, i2⟩ := tps_get t h2
          have hm : m = x.map D.int := by
            have go : ∀ (m : List D) (x : List Int), ints? m = some x → m = x.map D.int := fun m => by
              induction m with
              | nil => intro x h; cases h; rfl
              | cons a m ih =>
                intro x h
                cases a with
                | int i =>
                  have h : (ints? m).map (i :: ·) = some x := h
                  cases q : ints? m with
                  | none => rw [q] at h; cases h
                  | some w => rw [q] at h; cases h; rw [ih w q]; rfl
                | _ => cases h
            exact go m x h1
          have hp : ∀ x : List Int, pds (x.map D.int) = x.map PyData.int := fun x => by
            induction x with
            | nil => rfl
            | cons i x ih => rw [List.map_cons, pds, ih]; rfl
          refine ⟨by rw [hm, i1]; rfl, ?_⟩
          rw [pds, i2, hm]
          show PyData.tuple (pds (x.map D.int)) :: _ = _
          rw [hp]
          rfl
    | _ => cases e
theorem sort_tups (hu : X.A.units + 66 < cLine) {pins : List (Addr × Obj)} {s : Shared} {σ : L2.St} {H : Hp} {us : List Value} {Q : VK} {n : Addr} {l : List D} {ys : List V} {z : List (List Int)} {S : Sto} {Kk : DK} (I : Inv X pins σ H s) (r : Vals [V.ref n] us) (hx : SqL X.K H n ys) (rl : RVs X.K H l ys) (e2 : tps? l = some z) (hz : (∀ t ∈ z, t ≠ []) ∨ ∀ t ∈ z, t = []) (rs : RepS X.K S H)
    (k : ∀ z' : List (List Int), z'.Perm z → z'.Pairwise (fun a b => lexI b a = false) → newl (z'.map tpI) S Kk) (aft : Aft X.K S H Kk Q) : wpAny (model X.prog X.w) X.A (call (.builtin "sorted") us) (EP X pins σ Q) X.xe s := by
  obtain ⟨el, ep⟩ := tps_get rl e2
  obtain ⟨its, rv, hl, hsz⟩ := I.list hx
  obtain ⟨u, rfl, ru⟩ := vals1 r
  obtain rfl : u = Value.ref n := ru
  have hfin : l.all (fin 12) = true := by
    rw [el, List.all_eq_true]
    intro d hd
    obtain ⟨t, _, rfl⟩ := List.mem_map.1 hd
    show (t.map D.int).all (fin 11) = true
    rw [List.all_eq_true]
    intro d hd
    obtain ⟨i, _, rfl⟩ := List.mem_map.1 hd
    rfl
  obtain ⟨as, h4⟩ := Dp.readsAll I (pds l) ys its (fin_dps rl hfin) rv
  rw [ep] at h4
  have er := readsAll_each encT h4
  have e : EachIs (fun v t => ∃ y, RelV y v ∧ RV X.K H (tpI t) y) its z := by
    have go : ∀ {z : List (List Int)} {ys : List V} {us : List Value}, Vals ys us → RVs X.K H (z.map tpI) ys → EachIs (fun v t => ∃ y, RelV y v ∧ RV X.K H (tpI t) y) us z := fun {z} => by
      induction z with
      | nil =>
        intro ys us h1 h2
        cases h2; cases h1; exact .nil
      | cons t z ih =>
        intro ys us h1 h2
        cases h2 with
        | cons a b =>
          cases h1 with
          | cons c d => exact .cons ⟨_, c, a⟩ (ih d b)
    exact go rv (by rw [← el]; exact rl)
  have hlen : z.length = ys.length := by rw [← rl.len, el, List.length_map]
  have dep : ∀ t, (encT t).depth ≤ 2 := fun t => by
    unfold encT
    simp only [PyData.depth, depth_ints]
    omega
  refine sorted_any (R := fun v t => ∃ y, RelV y v ∧ RV X.K H (tpI t) y) (enc := encT) hl.isList e er (AllAlike.of fun a b => by unfold encT; simp [alike, alike_ints]) ?_ (by omega) (fun t _ => by have := dep t; omega) (by omega) fun out ho eo => ?_
  · rcases hz with hz | hz
    · refine .inl (.inl fun d hd => ?_)
      obtain ⟨t, ht, rfl⟩ := List.mem_map.1 hd
      cases t with
      | nil => exact absurd rfl (hz _ ht)
      | cons i t => exact ⟨_, _, rfl⟩
    · refine .inr fun d hd => ?_
      obtain ⟨t, ht, rfl⟩ := List.mem_map.1 hd
      rw [hz t ht]; rfl
  · rw [le_tups] at eo
    obtain ⟨vs', r1, r2⟩ : ∃ vs', Vals vs' out ∧ RVs X.K H ((z.mergeSort fun a b => !lexI b a).map tpI) vs' := by
      have go : ∀ {z : List (List Int)} {us : List Value}, EachIs (fun v t => ∃ y, RelV y v ∧ RV X.K H (tpI t) y) us z → ∃ vs', Vals vs' us ∧ RVs X.K H (z.map tpI) vs' := fun {z} {us} h => by
        induction h with
        | nil => exact ⟨[], .nil, .nil⟩
        | cons a _ ih =>
          obtain ⟨y, a1, a2⟩ := a
          obtain ⟨vs', b1, b2⟩ := ih
          exact ⟨y :: vs', .cons a1 b1, .cons a2 b2⟩
      exact go eo
    have hn : H (s.heap.objs.size + 1) = none := I.hok.fresh (Nat.le_succ _)
    obtain ⟨c, hc⟩ := sortedAll_at s.heap its (List.toArray out)
    have kk := k (z.mergeSort fun a b => !lexI b a) (List.mergeSort_perm _ _) ((List.pairwise_mergeSort (fun a b c h1 h2 => by
      simp only [Bool.not_eq_true'] at h1 h2 ⊢
      exact lexI_le_trans a b c h1 h2) (fun a b => lexI_total a b) z).imp fun h => by simpa using h)
    refine ep_fr ⟨.ref (s.heap.objs.size + 1), L2.upd H (s.heap.objs.size + 1) (.lst vs'), I.laid (t' := s.toks) (fun b o => sortedAll_old) (Nat.le_succ _) ⟨?_, out, c, r1, hc⟩, rfl, aft.newl rs kk r2 hn⟩
    have := r2.len
    rw [List.length_map, List.length_mergeSort] at this
    omega
end
end Ev
set_option Elab.async false
set_option linter.all false
set_option maxRecDepth 100000
set_option maxHeartbeats 1000000
/-! EvL: any(xs), all(xs) by truth. -/
namespace Ev
open PySem PySem.Spec PyProof.Rows L2
/-- the truth of a value that stands by itself -/
def tvV : V → Option Bool
  | .non => some false
  | .bl b => some b
  | .int i => some (i != 0)
  | _ => none
theorem truthy_rel {prog : Program} {w : World} {A : Around} {x : V} {v : Value} {b : Bool} {s : Shared} {Q : Bool → Shared → Prop} {E : Value → Shared → Prop} (r : RelV x v) (h : tvV x = some b) (q : Q b s) : wpAny (model prog w) A (truthy v) Q E s := by
  cases x with
  | non => cases h; obtain rfl : v = .none := r; exact fun _ _ _ => q
  | bl c => cases h; obtain rfl : v = .bool b := r; exact fun _ _ _ => q
  | int i =>
    cases h
    obtain ⟨t, rfl⟩ : ∃ t, v = .int i t := r
    exact PyProof.Rows.truthy_int q
  | _ => cases h
theorem vals_tv {xs : List V} {us : List Value} {bs : List Bool} (r : Vals xs us) (h : xs.map tvV = bs.map some) {prog : Program} {w : World} {A : Around} : TruthOf prog w A (fun i v => us.toArray[i]? = some v) (fun i => bs.getD i false) := fun i v s Q E hv hq => by
  have hv' : us[i]? = some v := by simpa using hv
  have hl := r.length
  have hi : i < us.length := (List.getElem?_eq_some_iff.1 hv').1
  have hx : xs[i]? = some xs[i] := List.getElem?_eq_getElem (by omega)
  obtain ⟨u, hu, ru⟩ := r.get hx
  rw [hv'] at hu
  cases hu
  have hb : bs.length = xs.length := by have := congrArg List.length h; simpa using this.symm
  have e : tvV xs[i] = some (bs[i]'(by omega)) := by
    have := congrArg (fun l => l[i]?) h
    simp only [List.getElem?_map, hx] at this
    rw [List.getElem?_eq_getElem (by omega)] at this
    simpa using this
  have hg : bs.getD i false = bs[i]'(by omega) := by rw [List.getD_eq_getElem?_getD, List.getElem?_eq_getElem (by omega)]; rfl
  have hq' : Q (bs.getD i false) s := hq
  rw [hg] at hq'
  exact truthy_rel ru e hq'
section
variable {X : Cx}
def rAnyV (K : PySem.W.Frag) : List V → Hp → VK → Prop := fun vs H Q => ∃ (a : Addr) (xs : List V) (bs : List Bool), vs = [V.ref a] ∧ SqL K H a xs ∧ xs.map tvV = bs.map some ∧ Q (.bl (bs.any id)) H
def rAllV (K : PySem.W.Frag) : List V → Hp → VK → Prop := fun vs H Q => ∃ (a : Addr) (xs : List V) (bs : List Bool), vs = [V.ref a] ∧ SqL K H a xs ∧ xs.map tvV = bs.map some ∧ Q (.bl (bs.all id)) H
theorem cr_anyV (hc : X.calm = true) : CallR X (.builtin "any") (rAnyV X.K) := by
  intro pins s σ H vs us Q I r h
  obtain ⟨a, xs, bs, rfl, hs, ht, q⟩ := h
  obtain ⟨its, rv, hl, _⟩ := I.list hs
  rw [Vals.ref1 r]
  refine call_any_walk (iter_any hl.isList fun s₂ e2 st hne => ?_)
  subst e2
  refine ⟨_, _, _, _, _, _, _, rfl, Walks.list (A := X.A.in1) (I.ok.hd hc) _ a hne its.toArray, st, vals_tv rv ht, fun h' tk hk => ?_⟩
  refine ⟨.bl _, H, I.kept fun b o eo => hk b o (fun hmem => ?_) (Heap.get?_push_of_some _ eo), ?_, q⟩
  · rcases List.mem_cons.mp hmem with e1 | hmem
    · exact absurd (e1 ▸ Heap.lt_size eo) (Nat.lt_irrefl _)
    · cases hmem
  · show Value.bool _ = Value.bool _
    have hb : bs.length = xs.length := by have := congrArg List.length ht; simpa using this.symm
    have hl2 := rv.length
    rw [← L2.any_range, List.size_toArray, hb, hl2]
theorem cr_allV (hc : X.calm = true) : CallR X (.builtin "all") (rAllV X.K) := by
  intro pins s σ H vs us Q I r h
  obtain ⟨a, xs, bs, rfl, hs, ht, q⟩ := h
  obtain ⟨its, rv, hl, _⟩ := I.list hs
  rw [Vals.ref1 r]
  refine call_all_walk (iter_any hl.isList fun s₂ e2 st hne => ?_)
  subst e2
  refine ⟨_, _, _, _, _, _, _, rfl, Walks.list (A := X.A.in1) (I.ok.hd hc) _ a hne its.toArray, st, vals_tv rv ht, fun h' tk hk => ?_⟩
  refine ⟨.bl _, H, I.kept fun b o eo => hk b o (fun hmem => ?_) (Heap.get?_push_of_some _ eo), ?_, q⟩
  · rcases List.mem_cons.mp hmem with e1 | hmem
    · exact absurd (e1 ▸ Heap.lt_size eo) (Nat.lt_irrefl _)
    · cases hmem
  · show Value.bool _ = Value.bool _
    have hb : bs.length = xs.length := by have := congrArg List.length ht; simpa using this.symm
    have hl2 := rv.length
    rw [← L2.all_range, List.size_toArray, hb, hl2]
theorem rvs_tv {K : PySem.W.Frag} {H : Hp} : ∀ {d : List D} {v : List V} {z : List Bool}, RVs K H d v → bls? d = some z → v.map tvV = z.map some
  | _, _, z, .nil, e => by
    have e' : some ([] : List Bool) = some z := e
    cases e'; rfl
  | _, _, z, .cons (d := x) (ds := ds) (v := v) (vs := vs) r t, e => by
    have go : ∀ b : Bool, (bls? ds).map (b :: ·) = some z → tvV v = some b → (v :: vs).map tvV = z.map some := fun b e' hv => by
      cases h : bls? ds with
      | none => rw [h] at e'; cases e'
      | some y =>
        rw [h] at e'
        cases e'
        rw [List.map_cons, List.map_cons, hv, rvs_tv t h]
    cases r with
    | bl i => exact go i e rfl
    | int i => exact go _ e rfl
    | non => exact go _ e rfl
    | _ => cases e
end
end Ev
set_option Elab.async false
set_option linter.all false
set_option maxRecDepth 100000
set_option maxHeartbeats 1000000
/-! EvB7: isinstance, built-ins and methods. -/
namespace Ev
open PySem PySem.Spec PyProof.Rows L2
open PySem.AutoSeq1 (wpAny_loadPart')

def tyOf : Ty → String
  | .int => "int" | .bool => "bool" | .str => "str" | .tuple => "tuple" | .list => "list" | .dict => "dict"
theorem kit_all (a : String) (ha : a ∈ ["NoneType", "bool", "int", "str", "tuple", "list", "dict"]) (t : Ty) :
    kitB a (tyOf t) = some (decide (a = tyOf t) || (decide (a = "bool") && decide (t = .int))) := by
  simp only [List.mem_cons, List.not_mem_nil, or_false] at ha
  rcases ha with rfl | rfl | rfl | rfl | rfl | rfl | rfl <;> cases t <;> decide +kernel
section
variable {X : Cx}
def rIsi1 (K : PySem.W.Frag) (t : Ty) : List V → Hp → VK → Prop := fun xs H Q => ∃ x a S Kb, xs = [x, .ty (tyOf t)] ∧ RV K H a x ∧ RepS K S H ∧ isiD S a t Kb ∧ ∀ c, Kb c → Q (.bl c) H
theorem call_isi1 (t : Ty) : CallR X (.builtin "isinstance") (rIsi1 X.K t) := by
  intro pins s σ H xs us Q I r ⟨x, a, S, Kb, ex, ra, rs, h, aft⟩
  subst ex
  have go : ∀ {nm : String} {b : Bool}, TyX X.K H x (.type nm) → kitB nm (tyOf t) = some b → Kb b → wpAny (model X.prog X.w) X.A (call (.builtin "isinstance") us) (EP X pins σ Q) X.xe s :=
    fun {nm b} ty k kb => call_isi pins s σ H _ us Q I r ⟨x, _, _, _, b, rfl, .ty (tyOf t), ty, kit_ty k, aft b kb⟩
  cases ra with
  | non =>
    refine go (nm := "NoneType") (.base .non) ?_ (show Kb false from h)
    rw [kit_all _ (by simp)]
    cases t <;> decide +kernel
  | bl b =>
    refine go (nm := "bool") (.base (.bl b)) ?_ h
    rw [kit_all _ (by simp)]
    cases t <;> decide +kernel
  | int i =>
    refine go (nm := "int") (.base (.int i)) ?_ h
    rw [kit_all _ (by simp)]
    cases t <;> decide +kernel
  | str i =>
    refine go (nm := "str") (.base (.str i)) ?_ h
    rw [kit_all _ (by simp)]
    cases t <;> decide +kernel
  | @tup l p ys hp rl =>
    have ty : TyX X.K H (.ref p) (.type "tuple") := by
      rcases hp.sq with (hp | ⟨o, hp⟩) | ⟨o, its, n, hk, hc, _⟩
      · exact .base (.tup hp)
      · exact .fTuple hp
      · exact .kTuple hk hc
    refine go ty ?_ h
    rw [kit_all _ (by simp)]
    cases t <;> decide +kernel
  | @tpu l p ys hp rl =>
    have ty : TyX X.K H (.ref p) (.type "tuple") := by
      rcases hp with (hp | ⟨o, hp⟩) | ⟨o, its, n, hk, hc, _⟩
      · exact .base (.tup hp)
      · exact .fTuple hp
      · exact .kTuple hk hc
    refine go ty ?_ h
    rw [kit_all _ (by simp)]
    cases t <;> decide +kernel
  | @fz l p ys hp rl =>
    have ty : TyX X.K H (.ref p) (.type "list") := by
      rcases hp with ⟨o, hp⟩ | ⟨o, its, n, hk, hc, _⟩
      · exact .base (.frz hp)
      · exact .kList hk hc
    refine go ty ?_ h
    rw [kit_all _ (by simp)]
    cases t <;> decide +kernel
  | ref n =>
    rcases sto_cases (S := S) (n := n) with e | ⟨l, e⟩ | ⟨l, e⟩ | ⟨c, f, e⟩ | ⟨l, e⟩
    · simp only [isiD, e] at h
    · simp only [isiD, e] at h
      obtain ⟨ys, hx, rl⟩ := lst_of rs e
      refine go (nm := "list") (.base (.lst hx)) ?_ h
      rw [kit_all _ (by simp)]
      cases t <;> decide +kernel
    · simp only [isiD, e] at h
      obtain ⟨kv, hx, rl⟩ := rs n _ e
      refine go (nm := "dict") (.base (.dK hx)) ?_ h
      rw [kit_all _ (by simp)]
      cases t <;> decide +kernel
    · simp only [isiD, e] at h

    · simp only [isiD, e] at h

/-! ### sorted pairs -/
def rSortedPS (K : PySem.W.Frag) : List V → Hp → VK → Prop := fun vs H Q => ∃ (a : Addr) (xs : List V) (k : V → Int × Int), vs = [V.ref a] ∧ SqL K H a xs ∧ (∀ x ∈ xs, ∃ t, x = V.ref t ∧ SqT K H t [.int (k x).1, .int (k x).2]) ∧
  ∀ ys p, SrtO.Srtd (ltP k) ys → SrtO.Stb (ltP k) ys xs → H p = none → Q (.ref p) (L2.upd H p (.lst ys))
theorem cr_sortedPS : CallR X (.builtin "sorted") (rSortedPS X.K) := by
  intro pins s σ H vs us Q I r h
  obtain ⟨a, xs, k, rfl, hs, hx, q⟩ := h
  obtain ⟨its, rv, hl, hz⟩ := I.list hs
  obtain ⟨u, rfl, ru⟩ := vals1 r
  obtain rfl : u = Value.ref a := ru
  obtain ⟨e1, e2⟩ := refs_back rv fun x m => by
    obtain ⟨t, e, _⟩ := hx x m
    exact ⟨t, e⟩
  refine SrtO.sorted_pairsO (k := fun u => k (backV u)) hl.isList (by rw [← rv.length]; exact hz) (fun v hv => ?_) fun h' d out h1 h2 kp hd hn => ?_
  · obtain ⟨t, rfl⟩ := e2 v hv
    have hm : V.ref t ∈ xs := by rw [e1]; exact List.mem_map.mpr ⟨_, hv, rfl⟩
    obtain ⟨t', e, ht⟩ := hx _ hm
    cases e
    obtain ⟨its2, r2, ⟨o, ho, hc, n, hd⟩, _⟩ := I.tuple ht
    obtain ⟨u1, u2, rfl, ri, rj⟩ := vals2 r2
    obtain ⟨t1, rfl⟩ := ri
    obtain ⟨t2, rfl⟩ := rj
    exact ⟨t, o, t1, t2, n, rfl, ho, hc, hd⟩
  · have h3 : ∀ u ∈ out, ∃ a, u = Value.ref a := fun u hu => e2 u (h2.perm.mem_iff.mp hu)
    obtain ⟨n, hn⟩ := hn
    have hb : SrtO.Stb (ltP k) (out.map backV) xs := by
      rw [e1]
      exact SrtO.Stb.map (ltP_swo k) backV h2
    refine ⟨.ref d, L2.upd H d (.lst (out.map backV)), I.laid (t' := s.toks) kp hd ⟨?_, out, n, vals_back h3, hn⟩, rfl, q _ d (SrtO.srtd_map h1) hb (I.hok.fresh hd)⟩
    rw [hb.len]
    exact hz
theorem prs_get {K : PySem.W.Frag} {H : Hp} : ∀ {l : List D} {ys : List V} {z : List (Int × Int)}, RVs K H l ys → prs? l = some z → l = z.map pr
  | _, _, z, .nil, e => by
    have e' : some ([] : List (Int × Int)) = some z := e
    cases e'; rfl
  | d :: l, _, z, .cons r t, e => by
    have go : ∀ i j, d = .tup [.int i, .int j] → d :: l = z.map pr := fun i j h => by
      subst h
      have e' : (prs? l).map ((i, j) :: ·) = some z := e
      cases q : prs? l with
      | none => rw [q] at e'; cases e'
      | some y =>
        rw [q] at e'
        cases e'
        rw [prs_get t q]; rfl
    unfold prs? at e
    split at e <;> first | (rename_i h; cases h; done) | (rename_i h; cases h; exact go _ _ rfl) | cases e
open Classical in
theorem sort_prs {pins : List (Addr × Obj)} {s : Shared} {σ : L2.St} {H : Hp} {us : List Value} {Q : VK} {n : Addr} {l : List D} {ys : List V} {z : List (Int × Int)} {S : Sto} {Kk : DK} (I : Inv X pins σ H s) (r : Vals [V.ref n] us) (hx : SqL X.K H n ys) (rl : RVs X.K H l ys) (e2 : prs? l = some z) (rs : RepS X.K S H)
    (k : ∀ z' : List (Int × Int), z'.Perm z → z'.Pairwise (fun a b => a.1 < b.1 ∨ (a.1 = b.1 ∧ a.2 ≤ b.2)) → newl (z'.map pr) S Kk) (aft : Aft X.K S H Kk Q) : wpAny (model X.prog X.w) X.A (call (.builtin "sorted") us) (EP X pins σ Q) X.xe s := by
  let ok : V → Int × Int → Prop := fun y p => ∃ t, y = V.ref t ∧ TpS X.K H t [.int p.1, .int p.2]
  let kf : V → Int × Int := fun y => if h : ∃ p, ok y p then choose h else (0, 0)
  have uni : ∀ y p, ok y p → kf y = p := fun y p h => by
    have ex : ∃ p, ok y p := ⟨p, h⟩
    have e : kf y = choose ex := dif_pos ex
    rw [e]
    obtain ⟨t, e1, h1⟩ := choose_spec ex
    obtain ⟨t', e1', h1'⟩ := h
    rw [e1] at e1'
    cases e1'
    have q := I.tuple_inj h1.sq h1'.sq
    simp only [List.cons.injEq, V.int.injEq, and_true] at q
    exact Prod.ext q.1 q.2
  have el := prs_get rl e2
  subst el
  have pt : ∀ (z : List (Int × Int)) (ys : List V), RVs X.K H (z.map pr) ys → (∀ y ∈ ys, ok y (kf y)) ∧ ys.map kf = z := fun z => by
    induction z with
    | nil => intro ys h; cases h; exact ⟨fun _ m => (nomatch m), rfl⟩
    | cons p z ih =>
      intro ys h
      cases h with
      | @cons _ _ y ys r1 r2 =>
        obtain ⟨i1, i2⟩ := ih ys r2
        have oy : ok y p := by
          have r1 : RV X.K H (.tup [.int p.1, .int p.2]) y := r1
          cases r1 with
          | @tup _ t xs hs rx =>
            cases rx with
            | cons ra rx =>
              cases rx with
              | cons rb rx =>
                cases rx; cases ra; cases rb
                exact ⟨t, rfl, hs⟩
        refine ⟨fun w hw => ?_, by rw [List.map_cons, i2, uni y p oy]⟩
        rcases List.mem_cons.1 hw with rfl | hw
        · rw [uni _ p oy]; exact oy
        · exact i1 w hw
  obtain ⟨p1, p2⟩ := pt z ys rl
  refine CallR.fr cr_sortedPS pins s σ H _ us Q I r ⟨n, ys, kf, rfl, hx, fun y hy => let ⟨t, e, h⟩ := p1 y hy; ⟨t, e, h.sq⟩, fun out p h1 h2 hp => ?_⟩
  refine aft.newl rs (k (out.map kf) ?_ ?_) ?_ hp
  · rw [← p2]; exact h2.perm.map kf
  · rw [List.pairwise_map]
    refine List.Pairwise.imp (fun {a b} h => ?_) h1
    have := SrtO.lexB_no.mp h
    omega
  · have all : ∀ out : List V, (∀ y ∈ out, y ∈ ys) → RVs X.K H ((out.map kf).map pr) out := fun out => by
      induction out with
      | nil => intro _; exact .nil
      | cons y out ih =>
        intro h
        obtain ⟨t, rfl, hs⟩ := p1 y (h y List.mem_cons_self)
        exact .cons (.tup hs (.cons (.int _) (.cons (.int _) .nil))) (ih fun w hw => h w (List.mem_cons_of_mem _ hw))
    exact all out fun y hy => h2.perm.mem_iff.mp hy
/-! ### built-ins -/
def rBlt (K : PySem.W.Frag) (f : Bf) : List V → Hp → VK → Prop := fun vs H Q => ∃ as S Kk, RVs K H as vs ∧ RepS K S H ∧ bltW f as S Kk ∧ Aft K S H Kk Q
def bfVal : Bf → Value
  | .len => .builtin "len" | .abs => .builtin "abs" | .min2 => .builtin "min" | .max2 => .builtin "max" | .int => .type "int" | .bool => .type "bool" | .list => .type "list" | .tuple => .type "tuple"
  | .sum => .builtin "sum" | .minl => .builtin "min" | .maxl => .builtin "max" | .any => .builtin "any" | .all => .builtin "all" | .sorted => .builtin "sorted" | .str => .type "str"
theorem call_blt (hc : X.calm = true) (hu : X.A.units + 66 < cLine) (f : Bf) : CallR X (bfVal f) (rBlt X.K f) := by
  intro pins s σ H xs us Q I r ⟨as, S, Kk, ra, rs, h, aft⟩
  cases ra with
  | nil => cases f <;> exact h.elim
  | @cons a as x xs r1 r2 =>
    cases r2 with
    | @cons b as y xs r3 r4 =>
      cases r4 with
      | cons _ _ =>
        cases f <;> first
          | exact h.elim
          | (cases a <;> first
            | exact h.elim
            | (cases b <;> exact h.elim))
      | nil =>
        cases f with
        | min2 =>
          cases r1 with
          | int i =>
            cases r3 with
            | int j => exact call_min2 hc pins s σ H _ us Q I r ⟨i, j, rfl, aft.self rs h (.int _)⟩
            | _ => exact h.elim
          | _ => exact h.elim
        | max2 =>
          cases r1 with
          | int i =>
            cases r3 with
            | int j => exact call_max2 hc pins s σ H _ us Q I r ⟨i, j, rfl, aft.self rs h (.int _)⟩
            | _ => exact h.elim
          | _ => exact h.elim
        | _ => cases a <;> exact h.elim
    | nil =>
      cases f with
      | len =>
        cases r1 with
        | str z => exact call_len pins s σ H _ us Q I r ⟨_, _, rfl, ⟨by rw [← line_eq]; exact h.1, rfl⟩, aft.self rs h.2 (.int _)⟩
        | @tup l p ys hp rl => exact call_len pins s σ H _ us Q I r ⟨_, ys.length, rfl, .inr ⟨ys, hp.sq, rfl⟩, by rw [← rl.len]; exact aft.self rs h (.int _)⟩
        | @fz l p ys hp rl => exact call_len pins s σ H _ us Q I r ⟨_, ys.length, rfl, .inl ⟨ys, hp.sq, rfl⟩, by rw [← rl.len]; exact aft.self rs h (.int _)⟩
        | ref n =>
          rcases sto_cases (S := S) (n := n) with e | ⟨l, e⟩ | ⟨l, e⟩ | ⟨c, f, e⟩ | ⟨l, e⟩
          · simp only [bltW, e] at h
          · simp only [bltW, e] at h
            obtain ⟨ys, hx, rl⟩ := lst_of rs e
            exact call_len pins s σ H _ us Q I r ⟨_, ys.length, rfl, .inl ⟨ys, .of hx, rfl⟩, by rw [← rl.len]; exact aft.self rs h (.int _)⟩
          · simp only [bltW, e] at h
            obtain ⟨kv, hx, rl⟩ := rs n _ e
            exact call_lenD pins s σ H _ us Q I r ⟨_, kv, rfl, hx, by rw [← rks_len rl]; exact aft.self rs h (.int _)⟩
          · simp only [bltW, e] at h
          · simp only [bltW, e] at h
            obtain ⟨xs, hx, ⟨hd, hz⟩, rl⟩ := rs n _ e
            obtain ⟨u, rfl, ru⟩ := vals1 r
            obtain rfl : u = Value.ref n := ru
            exact td_len I hx rl hd hz (by rw [← rts_len rl]; exact aft.self rs h (.int _))
        | _ => exact h.elim
      | abs =>
        cases r1 with
        | int i => exact call_abs pins s σ H _ us Q I r ⟨i, rfl, aft.self rs h (.int _)⟩
        | _ => exact h.elim
      | int =>
        cases r1 with
        | int i => exact call_int1 pins s σ H _ us Q I r (.inl ⟨i, rfl, aft.self rs h (.int _)⟩)
        | bl b => exact call_int1 pins s σ H _ us Q I r (.inr ⟨b, rfl, aft.self rs h (.int _)⟩)
        | _ => exact h.elim
      | bool =>
        cases r1 with
        | int i => exact call_bool1 pins s σ H _ us Q I r (.inl ⟨i, rfl, aft.self rs h (.bl _)⟩)
        | bl b => exact call_bool1 pins s σ H _ us Q I r (.inr ⟨b, rfl, aft.self rs h (.bl _)⟩)
        | _ => exact h.elim
      | str =>
        cases r1 with
        | int i => exact call_str_int pins s σ H _ us Q I r ⟨i, rfl, h.1, aft.self rs h.2 (.str _)⟩
        | _ => exact h.elim
      | list =>
        cases r1 with
        | @tup l p ys hp rl => exact CallR.fr call_list_of pins s σ H _ us Q I r ⟨p, ys, rfl, .inr hp.sq, fun q hq => aft.newl rs h rl hq⟩
        | @fz l p ys hp rl => exact CallR.fr call_list_of pins s σ H _ us Q I r ⟨p, ys, rfl, .inl hp.sq, fun q hq => aft.newl rs h rl hq⟩
        | ref n =>
          rcases sto_cases (S := S) (n := n) with e | ⟨l, e⟩ | ⟨l, e⟩ | ⟨c, f, e⟩ | ⟨l, e⟩
          · simp only [bltW, e] at h
          · simp only [bltW, e] at h
            obtain ⟨ys, hx, rl⟩ := lst_of rs e
            exact CallR.fr call_list_of pins s σ H _ us Q I r ⟨n, ys, rfl, .inl (.of hx), fun q hq => aft.newl rs h rl hq⟩
          · simp only [bltW, e] at h
            obtain ⟨kv, hx, rl⟩ := rs n _ e
            exact CallR.fr (call_listD hc) pins s σ H _ us Q I r ⟨n, kv, rfl, .inl hx, fun q hq => aft.newl rs h (rks_keys rl) hq⟩
          · simp only [bltW, e] at h
          · simp only [bltW, e] at h
            obtain ⟨xs, hx, ⟨hd, hz⟩, rl⟩ := rs n _ e
            obtain ⟨u, rfl, ru⟩ := vals1 r
            obtain rfl : u = Value.ref n := ru
            exact wpAny_mono (td_list hc (Q := frQ Q) I hx rl hd hz fun q hq => aft.newl rs h (rts_keys rl) hq) (fun _ _ => ep_fr) fun _ _ x => x
        | _ => exact h.elim
      | tuple =>
        cases r1 with
        | @tup l p ys hp rl => exact call_tupN pins s σ H _ us Q I r ⟨p, ys, rfl, .inr ⟨hp.sq, aft.self rs h (.tup hp rl)⟩⟩
        | @fz l p ys hp rl => exact call_tupN pins s σ H _ us Q I r ⟨p, ys, rfl, .inl ⟨hp.sq, fun q o hq hd => aft.tup rs h rl hq hd⟩⟩
        | ref n =>
          rcases sto_cases (S := S) (n := n) with e | ⟨l, e⟩ | ⟨l, e⟩ | ⟨c, f, e⟩ | ⟨l, e⟩
          · simp only [bltW, e] at h
          · simp only [bltW, e] at h
            obtain ⟨ys, hx, rl⟩ := lst_of rs e
            exact call_tupN pins s σ H _ us Q I r ⟨n, ys, rfl, .inl ⟨.of hx, fun q o hq hd => aft.tup rs h rl hq hd⟩⟩
          · simp only [bltW, e] at h
          · simp only [bltW, e] at h
          · simp only [bltW, e] at h
        | _ => exact h.elim
      | sum =>
        obtain ⟨l, e, z, e2, k⟩ := h
        obtain ⟨n, ys, rfl, hx, rl⟩ := lst_src rs r1 e
        have ez := rl.ints e2
        subst ez
        exact cr_sum hc pins s σ H _ us Q I r ⟨n, z, rfl, hx, aft.self rs k (.int _)⟩
      | maxl =>
        obtain ⟨l, e, z, e2, ne, k⟩ := h
        obtain ⟨n, ys, rfl, hx, rl⟩ := lst_src rs r1 e
        have ez := rl.ints e2
        subst ez
        exact cr_max hc pins s σ H _ us Q I r ⟨n, z, rfl, hx, List.length_pos_iff.mpr ne, fun m h1 h2 => aft.self rs (k m h1 h2) (.int _)⟩
      | minl =>
        obtain ⟨l, e, z, e2, ne, k⟩ := h
        obtain ⟨n, ys, rfl, hx, rl⟩ := lst_src rs r1 e
        have ez := rl.ints e2
        subst ez
        exact cr_min hc pins s σ H _ us Q I r ⟨n, z, rfl, hx, List.length_pos_iff.mpr ne, fun m h1 h2 => aft.self rs (k m h1 h2) (.int _)⟩
      | any =>
        obtain ⟨l, e, z, e2, k⟩ := h
        obtain ⟨n, ys, rfl, hx, rl⟩ := lst_src rs r1 e
        exact cr_anyV hc pins s σ H _ us Q I r ⟨n, ys, z, rfl, hx, rvs_tv rl e2, aft.self rs k (.bl _)⟩
      | all =>
        obtain ⟨l, e, z, e2, k⟩ := h
        obtain ⟨n, ys, rfl, hx, rl⟩ := lst_src rs r1 e
        exact cr_allV hc pins s σ H _ us Q I r ⟨n, ys, z, rfl, hx, rvs_tv rl e2, aft.self rs k (.bl _)⟩
      | sorted =>
        obtain ⟨l, e, h⟩ := h
        obtain ⟨n, ys, rfl, hx, rl⟩ := lst_src rs r1 e
        rcases h with ⟨z, e2, k⟩ | ⟨z, e2, k⟩ | ⟨z, e2, hz, k⟩
        · have ez := rl.ints e2
          subst ez
          refine CallR.fr cr_sortedI pins s σ H _ us Q I r ⟨n, z, rfl, hx, fun z' p h1 h2 hp => aft.newl rs (k z' h1 h2) ?_ hp⟩
          have rm : ∀ l : List Int, RVs X.K H (l.map D.int) (l.map V.int) := fun l => by
            induction l with
            | nil => exact .nil
            | cons i l ih => exact .cons (.int i) ih
          exact rm z'
        · exact sort_prs I r hx rl e2 rs k aft
        · exact sort_tups hu I r hx rl e2 hz rs k aft
      | _ => cases a <;> exact h.elim

/-! ### methods -/
theorem extend_tup (l : Addr) (items : Array Value) (n : Nat) (b : Addr) (items2 : Array Value) (n2 : Nat) (dd : Option Addr) (sl : Array (Option Value))
    (hs0 : ¬(!items.isEmpty && Builtin.List.listTooLong (items.size + items2.size)) = true) (hs1 : items.size ≤ sizeLine) (hs2 : items.size + items2.size ≤ sizeLine + 1) :
    Meets (Builtin.«list.extend» ⟨[.ref l, .ref b], []⟩) (fun _ R s => s.heap.get? l = some { cls := .type "list", dict := none, data := .seq items n, slots := #[] } ∧
      s.heap.get? b = some { cls := .type "tuple", dict := dd, data := .seq items2 n2, slots := sl } ∧ R (.ok (.ret Value.none)) { s with heap := s.heap.update l (Obj.mapSeq fun x => x ++ items2), toks := s.toks }) :=
  .of_wp fun prog w A R s h => by
    obtain ⟨hp, g, d, tk, os⟩ := s
    obtain ⟨hl, hb, h⟩ := h
    have f1 := AutoSeq1.idx_int
    have f2 := AutoSeq1.sub_tuple_tuple
    have f3 := AutoSeq1.sub_list_list
    have f4 := AutoSeq1.sub_tuple_list
    have f5 := AutoSeq1.sub_list_tuple
    have hz' : (items ++ items2).size ≤ sizeLine + 1 := by
      rw [Array.size_append]
      exact hs2
    wp_walk using (wpAny_updateSeq hl rfl (hz := hs1) (_hz' := hz')), wpAny_loadPart' hl, wpAny_loadPart' hb
    exact ⟨_, rfl, h⟩
def rExtT (K : PySem.W.Frag) : V → List V → Hp → VK → Prop := fun x vs H Q => ∃ l b xs zs, x = .ref l ∧ vs = [.ref b] ∧ H l = some (.lst xs) ∧ SqT K H b zs ∧ xs.length + zs.length ≤ sizeLine ∧ Q .non (L2.upd H l (.lst (xs ++ zs)))
theorem mt_extT : MtM X "list.extend" (rExtT X.K) := by
  intro pins s σ H x vs v us Q I rx rv h
  obtain ⟨l, b, xs, zs, rfl, rfl, hH, hB, hz, q⟩ := h
  cases rx
  obtain ⟨u, rfl, ru⟩ := rv.one
  cases ru
  obtain ⟨z, its, n, r, hl, e⟩ := I.lstM hH
  obtain ⟨its2, r2, ⟨⟨cls, dd, data, sl⟩, ho, hc, n2, hd⟩, hz2⟩ := I.tuple hB
  simp only at hc hd
  subst hc hd
  have hl2 := r2.length
  have hsz : its.toArray.size + its2.toArray.size ≤ sizeLine := by rw [List.size_toArray, List.size_toArray]; omega
  have hlong : ¬ (!its.toArray.isEmpty && Builtin.List.listTooLong (its.toArray.size + its2.toArray.size)) = true := by
    rw [notLongL hsz, Bool.and_false]
    exact Bool.false_ne_true
  refine call_meets F.slot_list_extend ⟨_, e, rfl⟩ F.entry_list_extend (F.args_list_extend_2 _ _) (extend_tup l its.toArray n b its2.toArray n2 dd sl hlong (by rw [List.size_toArray]; omega) (by omega)) ⟨e, ho, ?_⟩
  refine ⟨.non, _, I.lset (its' := its ++ its2) hH e (by simp) (r.append r2) ?_, rfl, q⟩
  rw [List.length_append]
  omega
theorem extend_lst (l : Addr) (items : Array Value) (n : Nat) (b : Addr) (items2 : Array Value) (n2 : Nat) (dd : Option Addr) (sl : Array (Option Value))
    (hs0 : ¬(!items.isEmpty && Builtin.List.listTooLong (items.size + items2.size)) = true) (hs1 : items.size ≤ sizeLine) (hs2 : items.size + items2.size ≤ sizeLine + 1) :
    Meets (Builtin.«list.extend» ⟨[.ref l, .ref b], []⟩) (fun _ R s => s.heap.get? l = some { cls := .type "list", dict := none, data := .seq items n, slots := #[] } ∧
      s.heap.get? b = some { cls := .type "list", dict := dd, data := .seq items2 n2, slots := sl } ∧ R (.ok (.ret Value.none)) { s with heap := s.heap.update l (Obj.mapSeq fun x => x ++ items2), toks := s.toks }) :=
  .of_wp fun prog w A R s h => by
    obtain ⟨hp, g, d, tk, os⟩ := s
    obtain ⟨hl, hb, h⟩ := h
    have f1 := AutoSeq1.idx_int
    have f2 := AutoSeq1.sub_tuple_tuple
    have f3 := AutoSeq1.sub_list_list
    have f4 := AutoSeq1.sub_tuple_list
    have f5 := AutoSeq1.sub_list_tuple
    have hz' : (items ++ items2).size ≤ sizeLine + 1 := by
      rw [Array.size_append]
      exact hs2
    wp_walk using (wpAny_updateSeq hl rfl (hz := hs1) (_hz' := hz')), wpAny_loadPart' hl, wpAny_loadPart' hb
    exact ⟨_, rfl, h⟩
def rExtF (K : PySem.W.Frag) : V → List V → Hp → VK → Prop := fun x vs H Q => ∃ l b xs zs, x = .ref l ∧ vs = [.ref b] ∧ H l = some (.lst xs) ∧ SqL K H b zs ∧ xs.length + zs.length ≤ sizeLine ∧ Q .non (L2.upd H l (.lst (xs ++ zs)))
theorem mt_extend_fz : MtM X "list.extend" (rExtF X.K) := by
  intro pins s σ H x vs v us Q I rx rv h
  obtain ⟨l, b, xs, zs, rfl, rfl, hH, hB, hz, q⟩ := h
  cases rx
  obtain ⟨u, rfl, ru⟩ := rv.one
  cases ru
  obtain ⟨z, its, n, r, hl, e⟩ := I.lstM hH
  obtain ⟨its2, r2, pl2, hz2⟩ := I.list hB
  obtain ⟨⟨cls, dd, data, sl⟩, ho, hc, n2, hd⟩ := pl2.isList
  simp only at hc hd
  subst hc hd
  have hl2 := r2.length
  have hsz : its.toArray.size + its2.toArray.size ≤ sizeLine := by rw [List.size_toArray, List.size_toArray]; omega
  have hlong : ¬ (!its.toArray.isEmpty && Builtin.List.listTooLong (its.toArray.size + its2.toArray.size)) = true := by
    rw [notLongL hsz, Bool.and_false]
    exact Bool.false_ne_true
  refine call_meets F.slot_list_extend ⟨_, e, rfl⟩ F.entry_list_extend (F.args_list_extend_2 _ _) (extend_lst l its.toArray n b its2.toArray n2 dd sl hlong (by rw [List.size_toArray]; omega) (by omega)) ⟨e, ho, ?_⟩
  refine ⟨.non, _, I.lset (its' := its ++ its2) hH e (by simp) (r.append r2) ?_, rfl, q⟩
  rw [List.length_append]
  omega
/-- what a method asks: of the object, then of the arguments -/
def rMth (K : PySem.W.Frag) (m : Mt) : V → List V → Hp → VK → Prop := fun x vs H Q => ∃ o as S Kk, RV K H o x ∧ RVs K H as vs ∧ RepS K S H ∧ mthW m o as S Kk ∧ Aft K S H Kk Q
def mtName : Mt → String
  | .append => "append" | .extend => "extend" | .pop0 => "pop" | .pop1 => "pop" | .insert => "insert" | .remove => "remove" | .index => "index" | .count => "count" | .reverse => "reverse" | .get2 => "get" | .bitlen => "bit_length"
end
end Ev
set_option Elab.async false
set_option linter.all false
set_option maxRecDepth 100000
set_option maxHeartbeats 1000000
/-! EvB8: which text a term of the small language stands for; the context. -/
namespace Ev
open PySem PySem.Spec PyProof.Rows L2

/-! ### the match -/
mutual
def sameD : D → D → Bool
  | .non, .non => true
  | .bl a, .bl b => a == b
  | .int a, .int b => decide (a = b)
  | .str a, .str b => decide (a = b)
  | .tup l, .tup m => sameDs l m
  | _, _ => false
def sameDs : List D → List D → Bool
  | [], [] => true
  | a :: l, b :: m => sameD a b && sameDs l m
  | _, _ => false
end
mutual
theorem sameD_eq : ∀ {a b : D}, sameD a b = true → a = b
  | .non, b, h => by cases b <;> first | rfl | (simp [sameD] at h)
  | .bl a, b, h => by cases b <;> first | (simp [sameD] at h; rw [h]) | (simp [sameD] at h)
  | .int a, b, h => by cases b <;> first | (simp [sameD] at h; rw [h]) | (simp [sameD] at h)
  | .str a, b, h => by cases b <;> first | (simp [sameD] at h; rw [h]) | (simp [sameD] at h)
  | .tup l, b, h => by
    cases b with
    | tup m => exact congrArg D.tup (sameDs_eq (by simpa [sameD] using h))
    | _ => simp [sameD] at h
  | .fz l, b, h => by cases b <;> simp [sameD] at h
  | .ref l, b, h => by cases b <;> simp [sameD] at h
theorem sameDs_eq : ∀ {l m : List D}, sameDs l m = true → l = m
  | [], [], _ => rfl
  | a :: l, b :: m, h => by
    simp only [sameDs, Bool.and_eq_true] at h
    rw [sameD_eq h.1, sameDs_eq h.2]
  | [], _ :: _, h => by simp [sameDs] at h
  | _ :: _, [], h => by simp [sameDs] at h
end
def sameK : List (Str × D) → List (Str × D) → Bool
  | [], [] => true
  | a :: l, b :: m => decide (a.1 = b.1) && (sameD a.2 b.2 && sameK l m)
  | _, _ => false
theorem sameK_eq : ∀ {l m : List (Str × D)}, sameK l m = true → l = m
  | [], [], _ => rfl
  | (a, c) :: l, (b, d) :: m, h => by
    simp only [sameK, Bool.and_eq_true, decide_eq_true_eq] at h
    obtain ⟨rfl, h2, h3⟩ := h
    rw [sameD_eq h2, sameK_eq h3]
  | [], _ :: _, h => by simp [sameK] at h
  | _ :: _, [], h => by simp [sameK] at h
/-- what a text's names tell: its defs, constants, dicts -/
structure Gt where
  fs : List Str
  cs : List (Str × D)
  ts : List (Str × List (Str × D))
  xs : Xt
def cstB (G : Gt) (x : Str) (d : D) : Bool := G.cs.any fun q => decide (q.1 = x) && sameD q.2 d
def dctB (G : Gt) (x : Str) (kv : List (Str × D)) : Bool := G.ts.any fun q => decide (q.1 = x) && sameK q.2 kv
structure GOk (G : Gt) (p : Prog) : Prop where
  fs : ∀ f ∈ G.fs, ∃ d, p f = some d
  cs : ∀ x d, (x, d) ∈ G.cs → p.c x d
  ts : ∀ x kv, (x, kv) ∈ G.ts → p.t x kv
  xs : p.x = G.xs
theorem GOk.cst {G : Gt} {p : Prog} (g : GOk G p) {x : Str} {d : D} (h : cstB G x d = true) : p.c x d := by
  unfold cstB at h
  obtain ⟨⟨y, e⟩, m, k⟩ := List.any_eq_true.1 h
  simp only [Bool.and_eq_true, decide_eq_true_eq] at k
  obtain ⟨rfl, k⟩ := k
  rw [← sameD_eq k]
  exact g.cs _ _ m
theorem GOk.dct {G : Gt} {p : Prog} (g : GOk G p) {x : Str} {d : List (Str × D)} (h : dctB G x d = true) : p.t x d := by
  unfold dctB at h
  obtain ⟨⟨y, e⟩, m, k⟩ := List.any_eq_true.1 h
  simp only [Bool.and_eq_true, decide_eq_true_eq] at k
  obtain ⟨rfl, k⟩ := k
  rw [← sameK_eq k]
  exact g.ts _ _ m
def visB (sc : Scope) (x : Str) : Bool := match sc.names.lookup x with
  | some .local => true
  | some .cell => true
  | some .free => true
  | _ => false
def locB (sc : Scope) (x : Str) : Bool := match sc.names.lookup x with
  | some .local => true
  | some .cell => true
  | _ => false
def gloB (sc : Scope) (x : Str) : Bool := match sc.names.lookup x with
  | some .globalImplicit => true
  | _ => false
def plainN (x : Str) : Bool := !(x == ("__debug__" : Str)) && !(x == ("__classdict__" : Str)) && !(x == ("__name__" : Str))
def bfName : Bf → String
  | .len => "len" | .abs => "abs" | .min2 => "min" | .max2 => "max" | .int => "int" | .bool => "bool" | .list => "list" | .tuple => "tuple"
  | .sum => "sum" | .minl => "min" | .maxl => "max" | .any => "any" | .all => "all" | .sorted => "sorted" | .str => "str"
/-- no call without arguments (super() is one) -/
def noSup : Expr → Bool
  | .Call _ [] _ _ => false
  | _ => true
def ownOf (N : List Str) (vs : List Nat) : List (Str × Nat) := vs.map fun i => (N.getD i Str.empty, i)
def fewB (es : List Expr) : Bool := decide (es.length < 28)
mutual
/-- the slots a target writes -/
def tgV : Tg → List Nat
  | .nm i => [i]
  | .tp ts => tgsV ts
def tgsV : Tgs → List Nat
  | .nil => []
  | .cons t ts => tgV t ++ tgsV ts
end
/-- -1 -/
def isM1 : Expr → Bool
  | .UnaryOp .USub (.Constant (.int v) _ _) _ => decide (v = 1)
  | _ => false
def mokB : Mt → Exs → Bool
  | .append, .nil => true
  | .extend, .nil => true
  | .pop1, .nil => true
  | .get2, .cons _ .nil => true
  | .insert, .cons _ .nil => true
  | .index, .nil => true
  | .count, .nil => true
  | _, _ => false
mutual
def mE (G : Gt) (N : List Str) : Scope → Ex → Expr → Bool
  | sc, .var i, .Name x _ => decide (N[i]? = some x) && (visB sc x && plainN x)
  | _, .non, .Constant .none _ _ => true
  | _, .bl b, .Constant (.bool c) _ _ => b == c
  | _, .int z, .Constant (.int y) _ _ => decide (z = y)
  | _, .str z, .Constant (.str y) _ _ => decide (z = y)
  | sc, .tup es, .Tuple l _ _ => mEs G N sc es l
  | sc, .lst es, .List l _ => mEs G N sc es l
  | _, .dic0, .Dict [] [] _ => true
  | sc, .cst x d, .Name y _ => decide (x = y) && (gloB sc y && (plainN y && cstB G x d))
  | sc, .cix x kv i, .Subscript (.Name y _) e _ => decide (x = y) && (gloB sc y && (plainN y && (dctB G x kv && mE G N sc i e)))
  | sc, .dic1 k v, .Dict [some x] [y] _ => mE G N sc k x && mE G N sc v y
  | sc, .bin op a b, .BinOp x o y _ => decide (o = bopOf op) && (mE G N sc a x && mE G N sc b y)
  | sc, .neg a, .UnaryOp .USub x _ => mE G N sc a x
  | sc, .inv a, .UnaryOp .Invert x _ => mE G N sc a x
  | sc, .not a, .UnaryOp .Not x _ => mE G N sc a x
  | sc, .cmp op a b, .Compare x [o] [y] _ => decide (o = copOf op) && (mE G N sc a x && mE G N sc b y)
  | sc, .chn o1 o2 a b c, .Compare x [p, q] [y, z] _ => decide (p = copOf o1) && (decide (q = copOf o2) && (mE G N sc a x && (mE G N sc b y && mE G N sc c z)))
  | sc, .and a b, .BoolOp .And [x, y] _ => mE G N sc a x && mE G N sc b y
  | sc, .and a b, .BoolOp .And (x :: y :: z :: r) p => mE G N sc a x && (mE G N sc b (.BoolOp .And (y :: z :: r) p))
  | sc, .or a b, .BoolOp .Or [x, y] _ => mE G N sc a x && mE G N sc b y
  | sc, .or a b, .BoolOp .Or (x :: y :: z :: r) p => mE G N sc a x && (mE G N sc b (.BoolOp .Or (y :: z :: r) p))
  | sc, .ite c a b, .IfExp x y z _ => tstB c && (mE G N sc c x && (mE G N sc a y && mE G N sc b z))
  | sc, .idx a i, .Subscript x y _ => mE G N sc a x && mE G N sc i y
  | sc, .slc a lo hi, .Subscript x (.Slice l h none _) _ => mE G N sc a x && (mO G N sc lo l && mO G N sc hi h)
  | sc, .call f es, .Call (.Name g _) l [] _ => decide (f = g) && (decide (f ∈ G.fs) && (gloB sc g && (plainN g && mEs G N sc es l)))
  | sc, .blt f es, .Call (.Name g _) (x :: l) [] _ => decide (g = Str.ofString (bfName f)) && (gloB sc g && mEs G N sc es (x :: l))
  | sc, .isi a t, .Call (.Name g _) [x, .Name T _] [] _ => decide (g = Str.ofString "isinstance") && (gloB sc g && (decide (T = Str.ofString (tyOf t)) && (gloB sc T && mE G N sc a x)))
  | sc, .mth .bitlen o .nil, .Call (.Attribute x m ap) [] [] p => decide (m = Str.ofString "bit_length") && (noSup x && ((ap.endLine == p.line) && mE G N sc o x))
  | sc, .mth .pop0 o .nil, .Call (.Attribute x m ap) [] [] p => decide (m = Str.ofString "pop") && (noSup x && ((ap.endLine == p.line) && mE G N sc o x))
  | sc, .mth m o (.cons e es), .Call (.Attribute x n ap) (y :: l) [] p => mokB m es && (decide (n = Str.ofString (mtName m)) && (noSup x && ((ap.endLine == p.line) && (fewB l && (mE G N sc o x && (mE G N sc e y && mEs G N sc es l))))))
  | sc, .rgl a, .Call (.Name g _) [.Call (.Name r _) [x] [] _] [] _ => decide (g = Str.ofString "list") && (gloB sc g && (decide (r = Str.ofString "range") && (gloB sc r && mE G N sc a x)))
  | sc, .rgt a, .Call (.Name g _) [.Call (.Name r _) [x] [] _] [] _ => decide (g = Str.ofString "tuple") && (gloB sc g && (decide (r = Str.ofString "range") && (gloB sc r && mE G N sc a x)))
  | sc, .revl a, .Call (.Name g _) [.Call (.Name r _) [x] [] _] [] _ => decide (g = Str.ofString "list") && (gloB sc g && (decide (r = Str.ofString "reversed") && (gloB sc r && mE G N sc a x)))
  | sc, .slr a, .Subscript x (.Slice none none (some (.UnaryOp .USub (.Constant (.int 1) _ _) _)) _) _ => mE G N sc a x
  | sc, .srtk f e, .Call (.Name g _) [x] [⟨some k, .Name h _, _⟩] _ => decide (g = Str.ofString "sorted") && (gloB sc g && (decide (k = Str.ofString "key") && (decide (f = h) && (decide (f ∈ G.fs) && (gloB sc h && (plainN h && mE G N sc e x))))))
  | sc, .srtr e, .Call (.Name g _) [x] [⟨some k, .Constant (.bool true) _ _, _⟩] _ => decide (g = Str.ofString "sorted") && (gloB sc g && (decide (k = Str.ofString "reverse") && mE G N sc e x))
  | sc, .lc elt tg it c vs, .ListComp x [⟨t, i, cs, 0⟩] s _ => blkC N sc s (ownOf N vs) && (((tgV tg).all fun i => decide (i ∈ vs)) && (mI G N sc it t i && (mT N s tg t && (mC G N (relS s sc) c cs && (mE G N (relS s sc) elt x)))))
  | _, _, _ => false
def mEs (G : Gt) (N : List Str) : Scope → Exs → List Expr → Bool
  | _, .nil, [] => true
  | sc, .cons e es, x :: l => mE G N sc e x && mEs G N sc es l
  | _, _, _ => false
def mO (G : Gt) (N : List Str) : Scope → Oe → Option Expr → Bool
  | _, .no, none => true
  | sc, .yes e, some x => mE G N sc e x
  | _, _, _ => false
def mC (G : Gt) (N : List Str) : Scope → Oe → List Expr → Bool
  | _, .no, [] => true
  | sc, .yes e, [x] => mE G N sc e x && tstB e
  | _, _, _ => false
/-- what may stand as a test -/
def tstB : Ex → Bool
  | .ite _ _ _ => false
  | .and a b => tstB a && tstB b
  | .or a b => tstB a && tstB b
  | .not a => tstB a
  | _ => true
def mI (G : Gt) (N : List Str) : Scope → It → Expr → Expr → Bool
  | sc, .val e, _, x => mE G N sc e x && notSet x
  | sc, .rg1 a, _, .Call (.Name g _) [x] [] _ => decide (g = Str.ofString "range") && (gloB sc g && mE G N sc a x)
  | sc, .rg2 a b, _, .Call (.Name g _) [x, y] [] _ => decide (g = Str.ofString "range") && (gloB sc g && (mE G N sc a x && mE G N sc b y))
  | sc, .enum a, .Tuple _ _ _, .Call (.Name g _) [x] [] _ => decide (g = Str.ofString "enumerate") && (gloB sc g && mE G N sc a x)
  | sc, .zip a b, .Tuple _ _ _, .Call (.Name g _) [x, y] [] _ => decide (g = Str.ofString "zip") && (gloB sc g && (mE G N sc a x && mE G N sc b y))
  | sc, .rgd a b, _, .Call (.Name g _) [x, y, z] [] _ => isM1 z && (decide (g = Str.ofString "range") && (gloB sc g && (mE G N sc a x && mE G N sc b y)))
  | sc, .rev a, _, .Call (.Name g _) [x] [] _ => decide (g = Str.ofString "reversed") && (gloB sc g && mE G N sc a x)
  | _, _, _, _ => false
def notSet : Expr → Bool
  | .Set _ _ _ => false
  | _ => true
def mT (N : List Str) : Scope → Tg → Expr → Bool
  | sr, .nm i, .Name x _ => decide (N[i]? = some x) && locB sr x
  | sr, .tp ts, .Tuple l _ _ => mTs N sr ts l
  | _, _, _ => false
def mTs (N : List Str) : Scope → Tgs → List Expr → Bool
  | _, .nil, [] => true
  | sr, .cons t ts, x :: l => mT N sr t x && mTs N sr ts l
  | _, _, _ => false
end
end Ev
set_option Elab.async false
set_option linter.all false
set_option maxRecDepth 100000
set_option maxHeartbeats 1000000
/-! EvB9: the context, the readings; expressions. -/
namespace Ev
open PySem PySem.Spec PyProof.Rows L2

/-- locals -/
def RL (K : PySem.W.Frag) (H : Hp) (ds : Loc) (σ : L2.St) : Prop := ds.length = σ.length ∧ ∀ (i : Nat) d, ds[i]? = some (some d) → ∃ v, σ[i]? = some (some v) ∧ RV K H d v
theorem RL.mono {K : PySem.W.Frag} {H H' : Hp} {ds : Loc} {σ : L2.St} (st : Stay H H') (r : RL K H ds σ) : RL K H' ds σ :=
  ⟨r.1, fun i d e => let ⟨v, h1, h2⟩ := r.2 i d e; ⟨v, h1, h2.mono st⟩⟩
theorem RL.set {K : PySem.W.Frag} {H : Hp} {ds : Loc} {σ : L2.St} (r : RL K H ds σ) (i : Nat) {d : D} {v : V} (rv : RV K H d v) : RL K H (ds.set i (some d)) (σ.set i (some v)) := by
  refine ⟨by rw [List.length_set, List.length_set]; exact r.1, fun j x e => ?_⟩
  by_cases h : i = j
  · subst h
    by_cases hl : i < ds.length
    · rw [List.getElem?_set_self hl] at e
      cases e
      exact ⟨v, by rw [List.getElem?_set_self (by rw [← r.1]; exact hl)], rv⟩
    · rw [List.getElem?_eq_none (by rw [List.length_set]; omega)] at e
      cases e
  · rw [List.getElem?_set_ne h] at e
    obtain ⟨w, h1, h2⟩ := r.2 j x e
    exact ⟨w, by rw [List.getElem?_set_ne h]; exact h1, h2⟩
theorem RL.wipe {K : PySem.W.Frag} {H : Hp} {ds : Loc} {σ : L2.St} (r : RL K H ds σ) : ∀ vs : List Nat, RL K H (Ev.wipe ds vs) (L2.wipe σ vs)
  | [] => r
  | v :: vs => by
    have ih := RL.wipe r vs
    refine ⟨by simp only [Ev.wipe, L2.wipe, List.length_set]; exact ih.1, fun j x e => ?_⟩
    simp only [Ev.wipe, L2.wipe] at e ⊢
    by_cases h : v = j
    · subst h
      by_cases hl : v < (Ev.wipe ds vs).length
      · rw [List.getElem?_set_self hl] at e; cases e
      · rw [List.getElem?_eq_none (by rw [List.length_set]; omega)] at e; cases e
    · rw [List.getElem?_set_ne h] at e
      obtain ⟨w, h1, h2⟩ := ih.2 j x e
      exact ⟨w, by rw [List.getElem?_set_ne h]; exact h1, h2⟩

/-- an exception -/
def RX (K : PySem.W.Frag) (mg : Str → Option Value) (H : Hp) (x : Xc) (cls : Value) (dd : Option Addr) : Prop :=
  ∃ C a fs, mg x.cls = some (.ref C) ∧ cls = .ref C ∧ dd = some a ∧ H a = some (.xd fs) ∧ ∀ f d, (f, d) ∈ x.fs → ∃ v, fs.lookup f = some v ∧ RV K H d v
/-- what a def of the table promises -/
def spOf (K : PySem.W.Frag) (mg : Str → Option Value) (p : Prog) (n : Nat) (f : Str) (np : Nat) : Sp := fun vs H Q E => vs.length = np ∧ ∃ ds S Kk Ek, RVs K H ds vs ∧ RepS K S H ∧ callW p n f ds S Kk Ek ∧ Aft K S H Kk Q ∧
  ∀ x S' cls dd H', Ek x S' → Ext S H S' H' → RepS K S' H' → RX K mg H' x cls dd → E cls dd H'
def bNames : List Str := ["len", "abs", "min", "max", "int", "bool", "list", "tuple", "sum", "any", "all", "sorted", "str", "isinstance", "dict", "range", "enumerate", "zip", "reversed", "super", "ValueError"]
/-- a constant of the module -/
def CstOk (K : PySem.W.Frag) (mg : Str → Option Value) (x : Str) (d : D) : Prop := ∃ u v, mg x = some u ∧ RelV v u ∧ ∀ H, RV K H d v
/-- a dict of the module that nobody changes -/
def DctOk (K : PySem.W.Frag) (w : World) (mg : Str → Option Value) (x : Str) (kv : List (Str × D)) : Prop := ∃ a, mg x = some (.ref a) ∧ ∀ z d, kv.lookup z = some d → ∃ v, KDct K w a z v ∧ ∀ H, RV K H d v
structure Ok (p : Prog) (n : Nat) (X : Cx) : Prop where
  calm : X.calm = true
  nd : X.N.Nodup
  hu : X.A.units + 66 < cLine
  room : Room (n + 2) X.A
  bi : ∀ x ∈ bNames, X.mg x = none
  fn : ∀ f d, p f = some d → ∃ a fd ps, X.mg f = some (.ref a) ∧ PySem.W.keepIn X.K (.ref a) = true ∧ Binds X.K fd ps [] ∧ ps.length = d.np ∧ FnOk X.prog X.w X.K X.mg X.base (L2.CX X.prog X.w) (n + 2) a fd ps (spOf X.K X.mg p n f d.np)
  fnk : ∀ m, n = m + 1 → ∀ f d, p f = some d → ∃ a fd ps, X.mg f = some (.ref a) ∧ PySem.W.keepIn X.K (.ref a) = true ∧ Binds X.K fd ps [] ∧ ps.length = d.np ∧ FnOk X.prog X.w X.K X.mg X.base (L2.CX X.prog X.w) (m + 2) a fd ps (spOf X.K X.mg p m f d.np)
  cs : ∀ x d, p.c x d → CstOk X.K X.mg x d
  ts : ∀ x kv, p.t x kv → DctOk X.K X.w X.mg x kv
theorem Ok.blk {p : Prog} {n : Nat} {X : Cx} (ok : Ok p n X) (s : Shared) (H : Hp) (scope : Scope) (cenv : Env) (fp : List Addr) : Ok p n (X.blk s H scope cenv fp) :=
  ⟨ok.calm, ok.nd, ok.hu, ok.room, ok.bi, ok.fn, ok.fnk, ok.cs, ok.ts⟩

/-! ### readings -/
def XKs (X : Cx) (W : WX) (σ : L2.St) (S : Sto) (H : Hp) (E : XK) : Prop := ∀ x S' cls dd H', E x S' → Ext S H S' H' → RepS X.K S' H' → RX X.K X.mg H' x cls dd → W cls dd σ H'
section
variable {X : Cx} {W : WX} {σ : L2.St} {S S1 : Sto} {H H1 : Hp} {E : XK}
theorem XKs.go (x : XKs X W σ S H E) (e : Ext S H S1 H1) : XKs X W σ S1 H1 E := fun a S' c d H' h1 h2 h3 h4 => x a S' c d H' h1 (e.trans h2) h3 h4
theorem Aft.go {K : PySem.W.Frag} {Kk : DK} {Q : VK} (a : Aft K S H Kk Q) (e : Ext S H S1 H1) : Aft K S1 H1 Kk Q := fun d S' v H' h1 h2 h3 h4 => a d S' v H' h1 (e.trans h2) h3 h4
end
def lE (X : Cx) (C : Cs) (W : WX) (e : Ex) : TE := fun σ H Q => ∃ ds S E Kk, RL X.K H ds σ ∧ RepS X.K S H ∧ exW C e ds E S Kk ∧ Aft X.K S H Kk Q ∧ XKs X W σ S H E
def lEs (X : Cx) (C : Cs) (W : WX) (e : Exs) : TA := fun σ H Q => ∃ ds S E Kk, RL X.K H ds σ ∧ RepS X.K S H ∧ exsW C e ds E S Kk ∧
  (∀ l S' vs H', Kk l S' → Ext S H S' H' → RepS X.K S' H' → RVs X.K H' l vs → Q vs H') ∧ XKs X W σ S H E
def lT (X : Cx) (C : Cs) (W : WX) (e : Ex) : TT := fun σ H Q => ∃ ds S E Kk, RL X.K H ds σ ∧ RepS X.K S H ∧ exW C e ds E S Kk ∧
  (∀ d S' H', Kk d S' → Ext S H S' H' → RepS X.K S' H' → ∃ b, truth? S' d = some b ∧ Q b H') ∧ XKs X W σ S H E
def lO (X : Cx) (C : Cs) (W : WX) (e : Oe) : TO := fun σ H Q => ∃ ds S E Kk, RL X.K H ds σ ∧ RepS X.K S H ∧ oeW C e ds E S Kk ∧
  (∀ o S' H', Kk o S' → Ext S H S' H' → RepS X.K S' H' → Q o H') ∧ XKs X W σ S H E
def lC (X : Cx) (C : Cs) (e : Oe) : TT := fun σ H Q => ∃ ds S Kk, RL X.K H ds σ ∧ RepS X.K S H ∧ ocW C e ds S Kk ∧
  (∀ b S' H', Kk b S' → Ext S H S' H' → RepS X.K S' H' → Q b H')
/-- an iterator that takes just these items -/
structure ItOk (K : PySem.W.Frag) (l : List D) (chk : Sto → Prop) (S0 : Sto) (H0 : Hp) (J : L2.It) : Prop where
  stop : ∀ S H, RepS K S H → chk S → Ext S0 H0 S H → J.stop l.length H
  go : ∀ i S H, i < l.length → RepS K S H → chk S → Ext S0 H0 S H → J.go i H
  yld : ∀ i S H x H', i < l.length → RepS K S H → chk S → Ext S0 H0 S H → J.yld i H x H' → ∃ d, l[i]? = some d ∧ RV K H' d x ∧ Ext S H S H' ∧ RepS K S H'
def lI (X : Cx) (C : Cs) (W : WX) (it : It) : TI := fun σ H R => ∃ ds S E Kk, RL X.K H ds σ ∧ RepS X.K S H ∧ itW C it ds E S Kk ∧
  (∀ l chk S' J H', Kk l chk S' → Ext S H S' H' → RepS X.K S' H' → ItOk X.K l chk S' H' J → R J H') ∧ XKs X W σ S H E

theorem _root_.L2.PE.imp {X : Cx} {e : Expr} {t t' : TE} (h : PE X e t) (hi : ∀ σ H Q, t' σ H Q → t σ H Q) : PE X e t' := ⟨fun pins s σ H Q I w => h.run pins s σ H Q I (hi σ H Q w)⟩
theorem _root_.L2.PT.imp {X : Cx} {e : Expr} {t t' : TT} (h : PT X e t) (hi : ∀ σ H Q, t' σ H Q → t σ H Q) : PT X e t' := ⟨fun pins s σ H Q I w => h.run pins s σ H Q I (hi σ H Q w)⟩
theorem _root_.L2.PW.imp {X : Cx} {e : Expr} {t t' : TT} (h : PW X e t) (hi : ∀ σ H Q, t' σ H Q → t σ H Q) : PW X e t' := ⟨fun wh pins s σ H Q I w => h.run wh pins s σ H Q I (hi σ H Q w)⟩
theorem _root_.L2.PA.imp {X : Cx} {e : List Expr} {t t' : TA} (h : PA X e t) (hi : ∀ σ H Q, t' σ H Q → t σ H Q) : PA X e t' := ⟨fun pos pins s σ H Q I w => h.run pos pins s σ H Q I (hi σ H Q w)⟩
theorem _root_.L2.PO.imp {X : Cx} {e : Option Expr} {t t' : TO} (h : PO X e t) (hi : ∀ σ H Q, t' σ H Q → t σ H Q) : PO X e t' := ⟨fun pins s σ H Q I w => h.run pins s σ H Q I (hi σ H Q w)⟩
theorem _root_.L2.PI.imp {X : Cx} {t e : Expr} {w w' : TI} (h : PI X t e w) (hi : ∀ σ H R, w' σ H R → w σ H R) : PI X t e w' := ⟨fun pins s σ H R I q => h.run pins s σ H R I (hi σ H R q)⟩

/-! ### what a match tells of the text -/
def isStar : Expr → Bool
  | .Starred _ _ => true
  | _ => false
def isSl : Expr → Bool
  | .Slice _ _ _ _ => true
  | _ => false
theorem star_cons {x : Expr} {l : List Expr} {env : Env} (h : isStar x = false) : starEach (x :: l) env = (false, eval x env) :: starEach l env := by
  cases x <;> first | rfl | cases h
theorem plainIx {x : Expr} (h : isSl x = false) : PlainIx x := fun o i => by
  cases x <;> first | rfl | cases h
theorem noMark {x : Expr} (h : notSet x = true) (op : CmpOp) : behindInMarks op x = false := by
  cases x <;> first | rfl | cases h
theorem noSup_ok {x : Expr} (h : noSup x = true) (m : Str) (env : Env) : attributeBase x m env (eval x env) = eval x env := by
  cases x with
  | Call f args kws pos =>
    cases args with
    | nil => cases h
    | cons a r => cases f <;> rfl
  | _ => rfl
theorem mE_pl {G : Gt} {N : List Str} {sc : Scope} {e : Ex} {x : Expr} (h : mE G N sc e x = true) : isStar x = false ∧ isSl x = false ∧ notSet x = true := by
  cases x with
  | Starred v p => cases e <;> first | (cases h; done) | simp [mE] at h
  | Slice l u s p => cases e <;> first | (cases h; done) | simp [mE] at h
  | Set l k p => cases e <;> first | (cases h; done) | simp [mE] at h
  | _ => exact ⟨rfl, rfl, rfl⟩
end Ev
set_option Elab.async false
set_option linter.all false
set_option maxRecDepth 100000
set_option maxHeartbeats 1000000
/-! EvC1: rules for the expressions, one by one. -/
namespace Ev
open PySem PySem.Spec PyProof.Rows L2

section
variable {X : Cx} {C : Cs} {W : WX} {p : Prog} {n : Nat} {x y z : Expr} {pos : Pos}
theorem s_var {i : Nat} {nm : Str} (hN : X.N[i]? = some nm) (hv : visB X.env.scope nm = true) (hp : plainN nm = true) : PE X (.Name nm pos) (lE X C W (.var i)) := by
  unfold plainN at hp
  simp only [Bool.and_eq_true, Bool.not_eq_true'] at hp
  have v : Vis X.env.scope nm := by
    unfold visB at hv
    split at hv <;> first | exact .inl (by assumption) | exact .inr (.inl (by assumption)) | exact .inr (.inr (by assumption)) | cases hv
  refine (pe_var hN v hp.1.1 hp.1.2).imp fun σ H Q ⟨ds, S, E, Kk, rl, rs, ⟨d, e, k⟩, aft, xk⟩ => ?_
  obtain ⟨w, h1, h2⟩ := rl.2 i d e
  exact ⟨w, h1, aft.self rs k h2⟩
theorem s_non {j} : PE X (.Constant .none j pos) (lE X C W .non) := pe_non.imp fun σ H Q ⟨ds, S, E, Kk, rl, rs, k, aft, xk⟩ => aft.self rs k .non
theorem s_bl {b j} : PE X (.Constant (.bool b) j pos) (lE X C W (.bl b)) := pe_bl.imp fun σ H Q ⟨ds, S, E, Kk, rl, rs, k, aft, xk⟩ => aft.self rs k (.bl b)
theorem s_int {b j} : PE X (.Constant (.int b) j pos) (lE X C W (.int b)) := pe_int.imp fun σ H Q ⟨ds, S, E, Kk, rl, rs, k, aft, xk⟩ => aft.self rs k (.int b)
theorem s_str {b j} : PE X (.Constant (.str b) j pos) (lE X C W (.str b)) := pe_str.imp fun σ H Q ⟨ds, S, E, Kk, rl, rs, k, aft, xk⟩ => aft.self rs k (.str b)
theorem s_dic0 : PE X (.Dict [] [] pos) (lE X C W .dic0) := pe_dnewK.imp fun σ H Q ⟨ds, S, E, Kk, rl, rs, k, aft, xk⟩ q hq =>
  aft _ _ _ _ (k q (rs.ne hq)) (Ext.made rs hq) (rs.made hq ⟨[], upd_same, .nil⟩) (.ref q)
theorem s_dic1 {a b : Ex} (ha : PE X x (lE X C W a)) (hb : PE X y (lE X C W b)) : PE X (.Dict [some x] [y] pos) (lE X C W (.dic1 a b)) := by
  refine (pe_disp (trs := [(lE X C W a, lE X C W b)]) (pps_cons ha hb pps_nil) rfl rfl (List.cons_ne_nil _ _) (by simp)).imp fun σ H Q ⟨ds, S, E, Kk, rl, rs, k, aft, xk⟩ q hq => ?_
  have hSq : S q = none := rs.ne hq
  have rs' : RepS X.K S (L2.upd H q (.dK [])) := rs.free hq
  have e0 : Ext S H S (L2.upd H q (.dK [])) := Ext.free rs hq
  refine ⟨ds, S, E, _, rl.mono (stay_new hq), rs', k, fun d S1 v H1 k1 e1 rs1 rv => ?_, xk.go e0⟩
  refine ⟨ds, S1, E, _, (rl.mono (stay_new hq)).mono (e1.stay rs'), rs1, k1, fun d2 S2 v2 H2 ⟨hk, k2⟩ e2 rs2 rv2 => ?_, (xk.go e0).go e1⟩
  have hS1 : S1 q = none := e1.away q hSq (by rw [upd_same]; simp)
  have hH1 : H1 q = some (.dK []) := e1.keep q _ hSq upd_same
  have hS2 : S2 q = none := e2.away q hS1 (by rw [hH1]; simp)
  have hH2 : H2 q = some (.dK []) := e2.keep q _ hS1 hH1
  have rv' := rv.mono (e2.stay rs1)
  obtain ⟨key, rfl, rfl⟩ := key_of_d rv' hk
  refine ⟨hH2, [(key, v2)], rfl, by simp, ?_⟩
  have em : mergeK [] [(key, v2)] = [(key, v2)] := rfl
  rw [em]
  have st : Stay H2 (L2.upd H2 q (.dK [(key, v2)])) := stay_old hH2 trivial
  refine aft _ (put S2 q (.dic [(kd key, d2)])) _ _ (k2 q hS2) ⟨fun a o n e => ?_, fun a n e => ?_⟩ (fun a o e => ?_) (.ref q)
  · have ne : a ≠ q := by rintro rfl; rw [hq] at e; cases e
    rw [upd_ne ne]
    exact ((e0.trans e1).trans e2).keep a o n e
  · have ne : a ≠ q := by rintro rfl; exact e hq
    rw [put_ne ne]
    exact ((e0.trans e1).trans e2).away a n e
  · by_cases h : a = q
    · subst h
      rw [put_same] at e
      cases e
      exact ⟨_, upd_same, .cons key (rv2.mono st) .nil⟩
    · rw [put_ne h] at e
      exact (rs2 a o e).mono st fun u z => by rw [upd_ne h]; exact z
theorem not_debug {f : Str} (h : plainN f = true) : (f == ("__debug__" : Str)) = false := by
  unfold plainN at h
  simp only [Bool.and_eq_true, Bool.not_eq_true'] at h
  exact h.1.1
theorem gl_of {X : Cx} {q : Str} (h : gloB X.env.scope q = true) : Gl X q := by
  unfold gloB at h
  split at h <;> first | assumption | cases h
theorem s_cst {nm : Str} {d : D} (hc : CstOk X.K X.mg nm d) (hg : gloB X.env.scope nm = true) (hp : plainN nm = true) : PE X (.Name nm pos) (lE X C W (.cst nm d)) := by
  obtain ⟨u, v, hm, r, rv⟩ := hc
  exact (pe_glob (gl_of hg) hm r (not_debug hp)).imp fun σ H Q ⟨ds, S, E, Kk, rl, rs, k, aft, xk⟩ => aft.self rs k (rv H)
theorem s_cix {nm : Str} {kv : List (Str × D)} {q : Pos} {b : Ex} (hc : DctOk X.K X.w X.mg nm kv) (hg : gloB X.env.scope nm = true) (hp : plainN nm = true) (hb : PE X y (lE X C W b)) (hs : isSl y = false) : PE X (.Subscript (.Name nm q) y pos) (lE X C W (.cix nm kv b)) := by
  obtain ⟨a, hm, hk⟩ := hc
  refine (pe_ix ix_kdict (pe_glob (v := .ref a) (gl_of hg) hm rfl (not_debug hp)) hb (plainIx hs)).imp fun σ H Q ⟨ds, S, E, Kk, rl, rs, k, aft, xk⟩ => ?_
  refine ⟨ds, S, E, _, rl, rs, k, fun d S1 v H1 ⟨z, d', ez, el, k1⟩ e1 rs1 rv => ?_, xk⟩
  subst ez
  cases rv
  obtain ⟨v, h1, h2⟩ := hk z d' el
  exact ⟨a, z, v, rfl, rfl, h1, (aft.go e1).self rs1 k1 (h2 H1)⟩
theorem s_nil : PA X [] (lEs X C W .nil) := pa_nil.imp fun σ H Q ⟨ds, S, E, Kk, rl, rs, k, aft, xk⟩ => aft [] S [] H k Ext.refl rs .nil
theorem s_cons {e : Ex} {es : Exs} {l : List Expr} (ha : PE X x (lE X C W e)) (hr : PA X l (lEs X C W es)) (hs : isStar x = false) : PA X (x :: l) (lEs X C W (.cons e es)) := by
  refine (pa_cons ha hr (star_cons hs)).imp fun σ H Q ⟨ds, S, E, Kk, rl, rs, k, aft, xk⟩ => ?_
  refine ⟨ds, S, E, _, rl, rs, k, fun d S1 v H1 k1 e1 rs1 rv => ?_, xk⟩
  refine ⟨ds, S1, E, _, rl.mono (e1.stay rs), rs1, k1, fun l S2 vs H2 k2 e2 rs2 rvs => ?_, xk.go e1⟩
  exact aft _ S2 _ H2 k2 (e1.trans e2) rs2 (.cons (rv.mono (e2.stay rs1)) rvs)
theorem s_tup {es : Exs} {l : List Expr} {j} (ha : PA X l (lEs X C W es)) : PE X (.Tuple l j pos) (lE X C W (.tup es)) := by
  refine (pe_tupN ha).imp fun σ H Q ⟨ds, S, E, Kk, rl, rs, k, aft, xk⟩ => ?_
  refine ⟨ds, S, E, _, rl, rs, k, fun l S1 vs H1 ⟨hz, k1⟩ e1 rs1 rvs => ⟨by rw [← rvs.len, ← line_eq]; exact hz, fun q o hq hd => ?_⟩, xk⟩
  exact (aft.go e1).tup rs1 k1 rvs hq hd
theorem s_lst {es : Exs} {l : List Expr} (ha : PA X l (lEs X C W es)) : PE X (.List l pos) (lE X C W (.lst es)) := by
  refine (PE.fr (pe_lst ha)).imp fun σ H Q ⟨ds, S, E, Kk, rl, rs, k, aft, xk⟩ => ?_
  refine ⟨ds, S, E, _, rl, rs, k, fun l S1 vs H1 ⟨hz, k1⟩ e1 rs1 rvs => ⟨by rw [← rvs.len, ← line_eq]; exact hz, fun q hq => ?_⟩, xk⟩
  exact (aft.go e1).newl rs1 k1 rvs hq
/-- two in a row -/
theorem s_two {a b : Ex} {σ : L2.St} {H : Hp} {R : V → V → Hp → Prop} {ds : Loc} {S : Sto} {E : XK} {K2 : D → D → Sto → Prop} (rl : RL X.K H ds σ) (rs : RepS X.K S H)
    (h : exW C a ds E S fun d S1 => exW C b ds E S1 fun e S2 => K2 d e S2) (xk : XKs X W σ S H E)
    (go : ∀ d e S2 v w H2, K2 d e S2 → Ext S H S2 H2 → RepS X.K S2 H2 → RV X.K H2 d v → RV X.K H2 e w → R v w H2) : lE X C W a σ H fun v H1 => lE X C W b σ H1 fun w H2 => R v w H2 := by
  refine ⟨ds, S, E, _, rl, rs, h, fun d S1 v H1 k1 e1 rs1 rv => ?_, xk⟩
  refine ⟨ds, S1, E, _, rl.mono (e1.stay rs), rs1, k1, fun e S2 w H2 k2 e2 rs2 rw' => ?_, xk.go e1⟩
  exact go d e S2 v w H2 k2 (e1.trans e2) rs2 (rv.mono (e2.stay rs1)) rw'
theorem s_bin {op : Bop} {a b : Ex} (ha : PE X x (lE X C W a)) (hb : PE X y (lE X C W b)) : PE X (.BinOp x (bopOf op) y pos) (lE X C W (.bin op a b)) := by
  refine (pe_op (op_bin op) ha hb).imp fun σ H Q ⟨ds, S, E, Kk, rl, rs, k, aft, xk⟩ => ?_
  exact s_two (R := fun v w H2 => rBin X.K op v w H2 Q) rl rs k xk fun d e S2 v w H2 k2 e2 rs2 r1 r2 => ⟨d, e, S2, Kk, r1, r2, rs2, k2, aft.go e2⟩
theorem s_neg {a : Ex} (ha : PE X x (lE X C W a)) : PE X (.UnaryOp .USub x pos) (lE X C W (.neg a)) := by
  refine (pe_un un_neg ha).imp fun σ H Q ⟨ds, S, E, Kk, rl, rs, k, aft, xk⟩ => ?_
  refine ⟨ds, S, E, _, rl, rs, k, fun d S1 v H1 ⟨i, ei, k1⟩ e1 rs1 rv => ?_, xk⟩
  subst ei
  cases rv
  exact ⟨i, rfl, (aft.go e1).self rs1 k1 (.int _)⟩
theorem s_inv {a : Ex} (ha : PE X x (lE X C W a)) : PE X (.UnaryOp .Invert x pos) (lE X C W (.inv a)) := by
  refine (pe_un un_inv ha).imp fun σ H Q ⟨ds, S, E, Kk, rl, rs, k, aft, xk⟩ => ?_
  refine ⟨ds, S, E, _, rl, rs, k, fun d S1 v H1 ⟨i, ei, k1⟩ e1 rs1 rv => ?_, xk⟩
  subst ei
  cases rv
  exact ⟨i, rfl, (aft.go e1).self rs1 k1 (.int _)⟩
theorem s_not {a : Ex} (ha : PE X x (lE X C W a)) : PE X (.UnaryOp .Not x pos) (lE X C W (.not a)) := by
  refine (pe_notT ha).imp fun σ H Q ⟨ds, S, E, Kk, rl, rs, k, aft, xk⟩ => ?_
  refine ⟨ds, S, E, _, rl, rs, k, fun d S1 v H1 ⟨b, eb, k1⟩ e1 rs1 rv => ?_, xk⟩
  exact ⟨b, truth_ok rs1 rv eb, (aft.go e1).self rs1 k1 (.bl _)⟩
theorem s_cmp {op : Cop} {a b : Ex} (hu : X.A.units + 66 < cLine) (ha : PE X x (lE X C W a)) (hb : PE X y (lE X C W b)) (hm : notSet y = true) : PE X (.Compare x [copOf op] [y] pos) (lE X C W (.cmp op a b)) := by
  refine (pe_cmpR (op_cmp hu op) ha hb (noMark hm _)).imp fun σ H Q ⟨ds, S, E, Kk, rl, rs, k, aft, xk⟩ => ?_
  exact s_two (R := fun v w H2 => rCmp X.K op v w H2 Q) rl rs k xk fun d e S2 v w H2 k2 e2 rs2 r1 r2 => ⟨d, e, S2, _, r1, r2, rs2, k2, fun c kc => (aft.go e2).self rs2 kc (.bl c)⟩
theorem s_chn {o1 o2 : Cop} {a b c : Ex} (hu : X.A.units + 66 < cLine) (ha : PE X x (lE X C W a)) (hb : PE X y (lE X C W b)) (hc : PE X z (lE X C W c)) (hm : notSet z = true) :
    PE X (.Compare x [copOf o1, copOf o2] [y, z] pos) (lE X C W (.chn o1 o2 a b c)) := by
  refine (pe_chain (op_cmp hu o1) (op_cmp hu o2) ha hb hc (show behindInMarks (copOf o2) z = false from noMark hm _)).imp fun σ H Q ⟨ds, S, E, Kk, rl, rs, k, aft, xk⟩ => ?_
  refine s_two (R := fun v w H2 => rCmp X.K o1 v w H2 _) rl rs k xk fun d e S2 v w H2 k2 e2 rs2 r1 r2 => ⟨d, e, S2, _, r1, r2, rs2, k2, fun c kc => ⟨c, rfl, ?_⟩⟩
  cases c with
  | false =>
    rw [if_neg Bool.false_ne_true] at kc ⊢
    exact (aft.go e2).self rs2 kc (.bl false)
  | true =>
    rw [if_pos rfl] at kc ⊢
    refine ⟨ds, S2, E, _, rl.mono (e2.stay rs), rs2, kc, fun f S3 u H3 k3 e3 rs3 r3 => ?_, xk.go e2⟩
    exact ⟨e, f, S3, _, r2.mono (e3.stay rs2), r3, rs3, k3, fun c' kc' => ((aft.go e2).go e3).self rs3 kc' (.bl c')⟩
theorem s_and {a b : Ex} {r : List Expr} (ha : PE X x (lE X C W a)) (hb : PE X (.BoolOp .And (y :: r) pos) (lE X C W b)) : PE X (.BoolOp .And (x :: y :: r) pos) (lE X C W (.and a b)) := by
  refine (pe_andT ha hb).imp fun σ H Q ⟨ds, S, E, Kk, rl, rs, k, aft, xk⟩ => ?_
  refine ⟨ds, S, E, _, rl, rs, k, fun d S1 v H1 ⟨c, ec, k1⟩ e1 rs1 rv => ⟨c, truth_ok rs1 rv ec, ?_⟩, xk⟩
  cases c with
  | false =>
    rw [if_neg Bool.false_ne_true] at k1 ⊢
    exact (aft.go e1).self rs1 k1 rv
  | true =>
    rw [if_pos rfl] at k1 ⊢
    exact ⟨ds, S1, E, Kk, rl.mono (e1.stay rs), rs1, k1, aft.go e1, xk.go e1⟩
theorem s_or {a b : Ex} {r : List Expr} (ha : PE X x (lE X C W a)) (hb : PE X (.BoolOp .Or (y :: r) pos) (lE X C W b)) : PE X (.BoolOp .Or (x :: y :: r) pos) (lE X C W (.or a b)) := by
  refine (pe_orT ha hb).imp fun σ H Q ⟨ds, S, E, Kk, rl, rs, k, aft, xk⟩ => ?_
  refine ⟨ds, S, E, _, rl, rs, k, fun d S1 v H1 ⟨c, ec, k1⟩ e1 rs1 rv => ⟨c, truth_ok rs1 rv ec, ?_⟩, xk⟩
  cases c with
  | true =>
    rw [if_pos rfl] at k1 ⊢
    exact (aft.go e1).self rs1 k1 rv
  | false =>
    rw [if_neg Bool.false_ne_true] at k1 ⊢
    exact ⟨ds, S1, E, Kk, rl.mono (e1.stay rs), rs1, k1, aft.go e1, xk.go e1⟩
theorem s_ite {c a b : Ex} (hc : PT X x (lT X C W c)) (ha : PE X y (lE X C W a)) (hb : PE X z (lE X C W b)) : PE X (.IfExp x y z pos) (lE X C W (.ite c a b)) := by
  refine (pe_ifExp hc ha hb).imp fun σ H Q ⟨ds, S, E, Kk, rl, rs, k, aft, xk⟩ => ?_
  refine ⟨ds, S, E, _, rl, rs, k, fun d S1 H1 ⟨c, ec, k1⟩ e1 rs1 => ⟨c, ec, ?_⟩, xk⟩
  cases c with
  | true =>
    rw [if_pos rfl] at k1 ⊢
    exact ⟨ds, S1, E, Kk, rl.mono (e1.stay rs), rs1, k1, aft.go e1, xk.go e1⟩
  | false =>
    rw [if_neg Bool.false_ne_true] at k1 ⊢
    exact ⟨ds, S1, E, Kk, rl.mono (e1.stay rs), rs1, k1, aft.go e1, xk.go e1⟩
theorem s_idx {a b : Ex} (hu : X.A.units + 66 < cLine) (ha : PE X x (lE X C W a)) (hb : PE X y (lE X C W b)) (hs : isSl y = false) : PE X (.Subscript x y pos) (lE X C W (.idx a b)) := by
  refine (pe_ix (ix_any hu) ha hb (plainIx hs)).imp fun σ H Q ⟨ds, S, E, Kk, rl, rs, k, aft, xk⟩ => ?_
  exact s_two (R := fun v w H2 => rIdx X.K v w H2 Q) rl rs k xk fun d e S2 v w H2 k2 e2 rs2 r1 r2 => ⟨d, e, S2, _, r1, r2, rs2, k2, fun d v kd rd => (aft.go e2).self rs2 kd rd⟩
theorem s_no : PO X none (lO X C W .no) := po_none.imp fun σ H Q ⟨ds, S, E, Kk, rl, rs, k, aft, xk⟩ => aft none S H k Ext.refl rs
theorem s_yes {e : Ex} (ha : PE X x (lE X C W e)) : PO X (some x) (lO X C W (.yes e)) := by
  refine (po_some ha).imp fun σ H Q ⟨ds, S, E, Kk, rl, rs, k, aft, xk⟩ => ?_
  refine ⟨ds, S, E, _, rl, rs, k, fun d S1 v H1 ⟨i, ei, k1⟩ e1 rs1 rv => ?_, xk⟩
  subst ei
  cases rv
  exact ⟨i, rfl, aft _ S1 H1 k1 e1 rs1⟩
theorem s_slc {a : Ex} {lo hi : Oe} {l h : Option Expr} {p2 : Pos} (ha : PE X x (lE X C W a)) (hl : PO X l (lO X C W lo)) (hh : PO X h (lO X C W hi)) : PE X (.Subscript x (.Slice l h none p2) pos) (lE X C W (.slc a lo hi)) := by
  refine (pe_slice slc_any ha hl hh).imp fun σ H Q ⟨ds, S, E, Kk, rl, rs, k, aft, xk⟩ => ?_
  refine ⟨ds, S, E, _, rl, rs, k, fun d S1 v H1 k1 e1 rs1 rv => ?_, xk⟩
  refine ⟨ds, S1, E, _, rl.mono (e1.stay rs), rs1, k1, fun o S2 H2 k2 e2 rs2 => ?_, xk.go e1⟩
  refine ⟨ds, S2, E, _, rl.mono ((e1.trans e2).stay rs), rs2, k2, fun o2 S3 H3 k3 e3 rs3 => ?_, (xk.go e1).go e2⟩
  exact ⟨d, S3, Kk, rv.mono ((e2.trans e3).stay rs1), rs3, k3, aft.go ((e1.trans e2).trans e3)⟩
theorem s_isi {a : Ex} {t : Ty} {g T : Str} {p1 p2 : Pos} (ok : Ok p n X) (ha : PE X x (lE X C W a)) (hst : isStar x = false) (hg : g = Str.ofString "isinstance") (hG : gloB X.env.scope g = true) (hT : T = Str.ofString (tyOf t)) (hTG : gloB X.env.scope T = true) :
    PE X (.Call (.Name g p1) [x, .Name T p2] [] pos) (lE X C W (.isi a t)) := by
  have gl : ∀ {q : Str}, gloB X.env.scope q = true → Gl X q := fun {q} h => by
    unfold gloB at h
    split at h <;> first | assumption | cases h
  have hm : X.mg T = none := by
    subst hT
    cases t <;> exact ok.bi _ (by decide +kernel)
  have hv : bootBuiltins T = some (.type (tyOf t)) := by
    subst hT
    cases t <;> decide +kernel
  have nn : T ≠ "__name__" := by
    subst hT
    cases t <;> decide +kernel
  have nd : (T == ("__debug__" : Str)) = false := by
    subst hT
    cases t <;> decide +kernel
  subst hg
  have pT : PE X (.Name T p2) (tC (.ty (tyOf t))) := pe_bltn (gl hTG) hm hv rfl nn nd
  refine (pe_callB (call_isi1 t) (gl hG) (ok.bi _ (by decide +kernel)) (by decide +kernel) (pa_cons ha (pa_cons pT pa_nil) (star_cons hst)) (by decide +kernel) (by decide +kernel) (star_cons hst)).imp fun σ H Q ⟨ds, S, E, Kk, rl, rs, k, aft, xk⟩ => ?_
  refine ⟨ds, S, E, _, rl, rs, k, fun d S1 v H1 k1 e1 rs1 rv => ?_, xk⟩
  exact ⟨v, d, S1, _, rfl, rv, rs1, k1, fun c kc => (aft.go e1).self rs1 kc (.bl c)⟩
end
end Ev
set_option Elab.async false
set_option linter.all false
set_option maxRecDepth 100000
set_option maxHeartbeats 1000000
/-! EvC2: calls, methods, tests. -/
namespace Ev
open PySem PySem.Spec PyProof.Rows L2

section
variable {X : Cx} {C : Cs} {W : WX} {p : Prog} {n : Nat} {x y z : Expr} {pos : Pos}
/-- the arguments are plain -/
structure Pl (X : Cx) (l : List Expr) : Prop where
  all : starEach l X.env = l.map fun e => (false, eval e X.env)
theorem Pl.nil : Pl X [] := ⟨rfl⟩
theorem Pl.cons {l : List Expr} (h : isStar x = false) (r : Pl X l) : Pl X (x :: l) := ⟨by rw [star_cons h, r.all]; rfl⟩
theorem Pl.any {l : List Expr} (r : Pl X l) (pos : Pos) : (backTo pos (starEach l X.env)).any (·.1) = false := by
  rw [r.all]
  unfold backTo
  simp [Function.comp_def]
theorem mEs_pl {G : Gt} {N : List Str} {sc : Scope} : ∀ {es : Exs} {l : List Expr}, mEs G N sc es l = true → Pl X l
  | .nil, [], _ => .nil
  | .cons e es, x :: l, h => by
    simp only [mEs, Bool.and_eq_true] at h
    exact .cons (mE_pl h.1).1 (mEs_pl h.2)
  | .nil, _ :: _, h => by simp [mEs] at h
  | .cons _ _, [], h => by simp [mEs] at h

/-! ### calls -/
theorem call_go {σ : L2.St} {S S1 : Sto} {H H1 : Hp} {E : XK} {Kk : DK} {Q : VK} {f : Str} {l : List D} {vs : List V} {np : Nat} (hl : l.length = np) (e1 : Ext S H S1 H1) (rs1 : RepS X.K S1 H1) (rvs : RVs X.K H1 l vs) (k : callW p n f l S1 Kk E)
    (aft : Aft X.K S H Kk Q) (xk : XKs X W σ S H E) : spOf X.K X.mg p n f np vs H1 Q (WE W σ) := by
  refine ⟨by rw [← rvs.len]; exact hl, l, S1, Kk, E, rvs, rs1, k, aft.go e1, fun x S' cls dd H' h1 h2 h3 h4 => xk x S' cls dd H' h1 (e1.trans h2) h3 h4⟩
theorem call_len {f : Str} {l : List D} {S : Sto} {Kk : DK} {E : XK} {d : Df} (h : callW p n f l S Kk E) (hf : p f = some d) : l.length = d.np := by
  cases n with
  | zero => exact h.elim
  | succ n =>
    have h : (match p f with | some d => bodyW (callC p n) d l S Kk E | none => False) := h
    rw [hf] at h
    exact h.1
theorem s_callI {f : Str} {es : Exs} {d : Df} (hf : p f = some d) : ∀ σ H Q, lE X (callC p n) W (.call f es) σ H Q → lEs X (callC p n) W es σ H fun vs H1 => spOf X.K X.mg p n f d.np vs H1 Q (WE W σ) := fun σ H Q ⟨ds, S, E, Kk, rl, rs, k, aft, xk⟩ =>
    ⟨ds, S, E, _, rl, rs, k, fun l S1 vs H1 k1 e1 rs1 rvs => call_go (call_len k1 hf) e1 rs1 rvs k1 aft xk, xk⟩
theorem s_call0 {f : Str} {q : Pos} {d : Df} (ok : Ok p n X) (tk : Takes X W) (hp : plainN f = true) (hg : gloB X.env.scope f = true) (hf : p f = some d) :
    PE X (.Call (.Name f q) [] [] pos) (lE X (callC p n) W (.call f .nil)) := by
  obtain ⟨a, fd, ps, hm, hk, hb, hl, F⟩ := ok.fn f d hf
  refine ⟨fun pins s σ H Q I ⟨ds, S, E, Kk, rl, rs, k, aft, xk⟩ => ?_⟩
  refine wpAny_Call_Name_kw (ld_glob I (gl_of hg) hm ?_ (not_debug hp))
  exact PySem.W.callWith_K0 I.kIn hk (run_fnS (us := []) F ok.room hb (passAt tk σ) I .nil (call_go (call_len k hf) Ext.refl rs .nil k aft xk))
theorem s_call {f : Str} {es : Exs} {e : Expr} {l : List Expr} {q : Pos} {d : Df} (ok : Ok p n X) (tk : Takes X W) (hp : plainN f = true) (hg : gloB X.env.scope f = true) (hf : p f = some d) (ha : PA X (e :: l) (lEs X (callC p n) W es)) (hs : isStar e = false) (pl : Pl X l) :
    PE X (.Call (.Name f q) (e :: l) [] pos) (lE X (callC p n) W (.call f es)) := by
  obtain ⟨a, fd, ps, hm, hk, hb, hl, F⟩ := ok.fn f d hf
  exact (pe_callS (E := WE W) F ok.room (gl_of hg) hm hk hb (fun σ => passAt tk σ) ha (not_debug hp) (star_cons hs) (pl.any pos)).imp (s_callI hf)
/-! ### builtins -/
theorem bf_boot (f : Bf) : bootBuiltins (Str.ofString (bfName f)) = some (bfVal f) := by cases f <;> decide +kernel
theorem bf_name (f : Bf) : Str.ofString (bfName f) ≠ Str.ofString "__name__" := by cases f <;> decide +kernel
theorem bf_debug (f : Bf) : (Str.ofString (bfName f) == ("__debug__" : Str)) = false := by cases f <;> decide +kernel
theorem bf_in (f : Bf) : Str.ofString (bfName f) ∈ bNames := by cases f <;> decide +kernel
theorem bf_val (f : Bf) : (∃ i, bfVal f = .builtin i) ∨ ∃ i, bfVal f = .type i := by
  cases f <;> first | exact .inl ⟨_, rfl⟩ | exact .inr ⟨_, rfl⟩
theorem s_blt {f : Bf} {es : Exs} {e : Expr} {l : List Expr} {q : Pos} (ok : Ok p n X) (hg : gloB X.env.scope (Str.ofString (bfName f)) = true) (ha : PA X (e :: l) (lEs X C W es)) (hs : isStar e = false) (pl : Pl X l) :
    PE X (.Call (.Name (Str.ofString (bfName f)) q) (e :: l) [] pos) (lE X C W (.blt f es)) := by
  have imp : ∀ σ H Q, lE X C W (.blt f es) σ H Q → tCB (rBlt X.K f) (lEs X C W es) σ H Q := fun σ H Q ⟨ds, S, E, Kk, rl, rs, k, aft, xk⟩ =>
    ⟨ds, S, E, _, rl, rs, k, fun l S1 vs H1 k1 e1 rs1 rvs => ⟨l, S1, Kk, rvs, rs1, k1, aft.go e1⟩, xk⟩
  have hc := call_blt (X := X) ok.calm ok.hu f
  have hb := bf_boot f
  rcases bf_val f with ⟨i, ei⟩ | ⟨i, ei⟩
  · rw [ei] at hc hb
    exact (pe_callB hc (gl_of hg) (ok.bi _ (bf_in f)) hb ha (bf_name f) (bf_debug f) (star_cons hs) (pl.any pos)).imp imp
  · rw [ei] at hc hb
    exact (pe_callTy hc (gl_of hg) (ok.bi _ (bf_in f)) hb ha (bf_name f) (bf_debug f) (star_cons hs) (pl.any pos)).imp imp
/-! ### methods -/
theorem rMth_append : MtR X "list.append" (rMth X.K .append) := by
  intro pins s σ H x xs v us Q I rx rv ⟨o, as, S, Kk, ro, ra, rs, h, aft⟩
  cases ro with
  | ref m =>
    rcases sto_cases (S := S) (n := m) with e | ⟨l, e⟩ | ⟨l, e⟩ | ⟨c, f, e⟩ | ⟨l, e⟩
    · simp only [mthW, e] at h
    · obtain ⟨ys, hx, rl⟩ := lst_of rs e
      cases ra with
      | nil => simp only [mthW, e] at h
      | @cons d ds w ws r1 r2 =>
        cases r2 with
        | nil =>
          simp only [mthW, e] at h
          exact mt_append pins s σ H _ _ v us Q I rx rv ⟨m, ys, w, rfl, rfl, hx, by rw [← rl.len, ← line_eq]; exact h.1, aft.wrote rs e hx h.2 (rl.app (.cons r1 .nil)) .non⟩
        | cons _ _ => simp only [mthW, e] at h
    · cases as with
      | nil => simp only [mthW, e] at h
      | cons d ds => cases ds <;> simp only [mthW, e] at h
    · simp only [mthW, e] at h
    · simp only [mthW, e] at h
  | int i => cases as <;> simp only [mthW] at h
  | _ => exact h.elim
theorem rMth_extend : MtR X "list.extend" (rMth X.K .extend) := by
  intro pins s σ H x xs v us Q I rx rv ⟨o, as, S, Kk, ro, ra, rs, h, aft⟩
  cases ro with
  | ref m =>
    rcases sto_cases (S := S) (n := m) with e | ⟨l, e⟩ | ⟨l, e⟩ | ⟨c, f, e⟩ | ⟨l, e⟩
    · simp only [mthW, e] at h
    · obtain ⟨ys, hx, rl⟩ := lst_of rs e
      cases ra with
      | nil => simp only [mthW, e] at h
      | @cons d ds w ws r1 r2 =>
        cases r2 with
        | nil =>
          simp only [mthW, e] at h
          obtain ⟨r, e2, hz, k⟩ := h
          cases r1 with
          | @tup l' p zs hp rt =>
            cases e2
            exact mt_extT pins s σ H _ _ v us Q I rx rv ⟨m, p, ys, zs, rfl, rfl, hx, hp.sq, by rw [← rl.len, ← rt.len, ← line_eq]; exact hz, aft.wrote rs e hx k (rl.app rt) .non⟩
          | ref p =>
            rcases sto_cases (S := S) (n := p) with e3 | ⟨l', e3⟩ | ⟨l', e3⟩ | ⟨c, f, e3⟩ | ⟨l, e3⟩
            · simp only [seq?, e3] at e2; cases e2
            · simp only [seq?, e3] at e2
              cases e2
              obtain ⟨zs, hp, rt⟩ := lst_of rs e3
              exact mt_extend pins s σ H _ _ v us Q I rx rv ⟨m, p, ys, zs, rfl, rfl, hx, hp, by rw [← rl.len, ← rt.len, ← line_eq]; exact hz, aft.wrote rs e hx k (rl.app rt) .non⟩
            · simp only [seq?, e3] at e2; cases e2
            · simp only [seq?, e3] at e2; cases e2
            · simp only [seq?, e3] at e2; cases e2
          | @fz l' p zs hp rt =>
            cases e2
            exact mt_extend_fz pins s σ H _ _ v us Q I rx rv ⟨m, p, ys, zs, rfl, rfl, hx, hp.sq, by rw [← rl.len, ← rt.len, ← line_eq]; exact hz, aft.wrote rs e hx k (rl.app rt) .non⟩
          | _ => cases e2
        | cons _ _ => simp only [mthW, e] at h
    · cases as with
      | nil => simp only [mthW, e] at h
      | cons d ds => cases ds <;> simp only [mthW, e] at h
    · simp only [mthW, e] at h
    · simp only [mthW, e] at h
  | int i => cases as <;> simp only [mthW] at h
  | _ => exact h.elim
theorem RVs.dropL {K : PySem.W.Frag} {H : Hp} {d : List D} {v : List V} (r : RVs K H d v) : RVs K H d.dropLast v.dropLast := by
  rw [List.dropLast_eq_take, List.dropLast_eq_take, ← r.len]
  exact r.take _
theorem rMth_pop0 : MtR X "list.pop" (rMth X.K .pop0) := by
  intro pins s σ H x xs v us Q I rx rv ⟨o, as, S, Kk, ro, ra, rs, h, aft⟩
  cases ro with
  | ref m =>
    rcases sto_cases (S := S) (n := m) with e | ⟨l, e⟩ | ⟨l, e⟩ | ⟨c, f, e⟩ | ⟨l, e⟩
    · simp only [mthW, e] at h
    · obtain ⟨ys, hx, rl⟩ := lst_of rs e
      cases ra with
      | nil =>
        simp only [mthW, e] at h
        obtain ⟨y, e2, k⟩ := h
        obtain ⟨w, e3, rw'⟩ := rl.get e2
        exact mt_pop pins s σ H _ _ v us Q I rx rv ⟨m, ys, w, rfl, rfl, hx, by rw [← rl.len]; exact e3, aft.wrote rs e hx k rl.dropL rw'⟩
      | cons _ _ => simp only [mthW, e] at h
    · simp only [mthW, e] at h
    · simp only [mthW, e] at h
    · simp only [mthW, e] at h
  | int i => cases as <;> simp only [mthW] at h
  | _ => exact h.elim
theorem ixn_seq {n : Nat} {i : Int} {j : Nat} (h : ixn n i = some j) : seqIndex? i n = some j ∧ j < n ∧ -(n : Int) ≤ i ∧ i < n := by
  unfold ixn at h
  split at h
  · split at h
    · cases h
      rename_i h1 h2
      have h2' : i < (n : Int) := h2
      exact ⟨seqIndex_of h1 h2', by omega, by omega, h2'⟩
    · cases h
  · split at h
    · cases h
      rename_i h1 h2
      have h2' : 0 ≤ i + (n : Int) := h2
      have e : (i + Int.ofNat n).toNat = (i + (n : Int)).toNat := rfl
      rw [e]
      exact ⟨seqIndex_neg (by omega) (by omega), by omega, by omega, by omega⟩
    · cases h
theorem rMth_pop1 : MtR X "list.pop" (rMth X.K .pop1) := by
  intro pins s σ H x xs v us Q I rx rv ⟨o, as, S, Kk, ro, ra, rs, h, aft⟩
  cases ro with
  | ref m =>
    rcases sto_cases (S := S) (n := m) with e | ⟨l, e⟩ | ⟨l, e⟩ | ⟨c, f, e⟩ | ⟨l, e⟩
    · simp only [mthW, e] at h
    · obtain ⟨ys, hx, rl⟩ := lst_of rs e
      cases ra with
      | nil => simp only [mthW, e] at h
      | @cons d ds w ws r1 r2 =>
        cases r2 with
        | nil =>
          cases r1 with
          | int i =>
            simp only [mthW, e] at h
            obtain ⟨j, e2, y, e3, k⟩ := h
            obtain ⟨w, e4, rw'⟩ := rl.get e3
            obtain ⟨h1, h2, h3, h4⟩ := ixn_seq e2
            obtain ⟨hz, _⟩ := I.lstM hx
            have hl := rl.len
            have hn := line63
            exact mt_popAt pins s σ H _ _ v us Q I rx rv ⟨m, ys, i, j, w, rfl, rfl, hx, by omega, by omega, by rw [← hl]; exact h1, e4, aft.wrote rs e hx k (rl.erase j) rw'⟩
          | _ => simp only [mthW, e] at h
        | cons _ _ => cases d <;> simp only [mthW, e] at h
    · cases as with
      | nil => simp only [mthW, e] at h
      | cons d ds => cases ds <;> simp only [mthW, e] at h
    · simp only [mthW, e] at h
    · simp only [mthW, e] at h
  | int i => cases as <;> simp only [mthW] at h
  | _ => exact h.elim
theorem rMth_insert : MtR X "list.insert" (rMth X.K .insert) := by
  intro pins s σ H x xs v us Q I rx rv ⟨o, as, S, Kk, ro, ra, rs, h, aft⟩
  cases ro with
  | ref m =>
    rcases sto_cases (S := S) (n := m) with e | ⟨l, e⟩ | ⟨l, e⟩ | ⟨c, f, e⟩ | ⟨l, e⟩
    · simp only [mthW, e] at h
    · obtain ⟨ys, hx, rl⟩ := lst_of rs e
      cases ra with
      | nil => simp only [mthW, e] at h
      | @cons d ds w ws r1 r2 =>
        cases r2 with
        | nil => cases d <;> simp only [mthW, e] at h
        | @cons d2 ds2 w2 ws2 r3 r4 =>
          cases r4 with
          | cons _ _ => cases d <;> simp only [mthW, e] at h
          | nil =>
            cases r1 with
            | int i =>
              simp only [mthW, e] at h
              obtain ⟨hz, h0, h1, k⟩ := h
              exact mt_insert pins s σ H _ _ v us Q I rx rv ⟨m, ys, i, w2, rfl, rfl, hx, by rw [← rl.len, ← line_eq]; exact hz, h0, by omega, aft.wrote rs e hx k (((rl.take _).app (.cons r3 .nil)).app (rl.drop _)) .non⟩
            | _ => simp only [mthW, e] at h
    · rcases as with _ | ⟨d, _ | ⟨d2, ds⟩⟩
      · simp only [mthW, e] at h
      · cases d <;> simp only [mthW, e] at h
      · cases d <;> simp only [mthW, e] at h
    · simp only [mthW, e] at h
    · simp only [mthW, e] at h
  | int i => cases as <;> simp only [mthW] at h
  | _ => exact h.elim
theorem pds_get : ∀ {l : List D} {j : Nat}, (pds l)[j]? = (l[j]?).map pd
  | [], j => by simp [pds]
  | d :: l, 0 => by simp [pds]
  | d :: l, j + 1 => by simp [pds, pds_get (l := l) (j := j)]
theorem all_get {α : Type} {l : List α} {f : α → Bool} (h : l.all f = true) {j : Nat} {y : α} (e : l[j]? = some y) : f y = true := List.all_eq_true.1 h y (List.mem_of_getElem? e)
theorem ind_go (hu : X.A.units + 66 < cLine) {pins : List (Addr × Obj)} {s : Shared} {σ : L2.St} {H : Hp} {v : Value} {us : List Value} {Q : VK} {a : Addr} {ys : List V} {l : List D} {d : D} {w : V} {S : Sto} {Kk : DK} (I : Inv X pins σ H s) (rx : RelV (V.ref a) v) (rv : Vals [w] us) (hx : SqL X.K H a ys) (rl : RVs X.K H l ys) (r1 : RV X.K H d w) (rs : RepS X.K S H)
    (h : indW l d S Kk) (aft : Aft X.K S H Kk Q) : wpAny (model X.prog X.w) X.A (call (.builtin "list.index") (v :: us)) (EP X pins σ Q) X.xe s := by
  obtain ⟨f, j, y, e1, e2, e3, k⟩ := h
  rw [Bool.and_eq_true] at f
  refine mt_indexD (by omega) pins s σ H _ _ v us Q I rx rv ⟨a, w, pd d, pds l, j, pd y, rfl, rfl, .lst hx (fin_dps rl f.2), fin_dp r1 f.1, fin_shapedL f.2, fin_shaped f.1, ?_, ?_, fun m z hm ez => ?_, aft.self rs k (.int _)⟩
  · rw [pds_get, e1]; rfl
  · rw [eqF_eqv (all_get f.2 e1) f.1]; exact e2
  · rw [pds_get] at ez
    cases q : l[m]? with
    | none => rw [q] at ez; cases ez
    | some z0 =>
      rw [q] at ez
      cases ez
      rw [eqF_eqv (all_get f.2 q) f.1]
      exact e3 m z0 hm q
theorem rMth_index (hu : X.A.units + 66 < cLine) : MtR X "list.index" (rMth X.K .index) := by
  intro pins s σ H x xs v us Q I rx rv ⟨o, as, S, Kk, ro, ra, rs, h, aft⟩
  cases ro with
  | ref m =>
    rcases sto_cases (S := S) (n := m) with e | ⟨l, e⟩ | ⟨l, e⟩ | ⟨c, f, e⟩ | ⟨l, e⟩
    · simp only [mthW, e] at h
    · obtain ⟨ys, hx, rl⟩ := lst_of rs e
      cases ra with
      | nil => simp only [mthW, e] at h
      | @cons d ds w ws r1 r2 =>
        cases r2 with
        | cons _ _ => simp only [mthW, e] at h
        | nil =>
          simp only [mthW, e] at h
          exact ind_go hu I rx rv (.of hx) rl r1 rs h aft
    · cases as with
      | nil => simp only [mthW, e] at h
      | cons d ds => cases ds <;> simp only [mthW, e] at h
    · simp only [mthW, e] at h
    · simp only [mthW, e] at h
  | @fz l a ys hp rl =>
    cases ra with
    | nil => exact h.elim
    | @cons d ds w ws r1 r2 =>
      cases r2 with
      | cons _ _ => exact h.elim
      | nil => exact ind_go hu I rx rv hp.sq rl r1 rs h aft
  | int i => cases as <;> simp only [mthW] at h
  | _ => exact h.elim
def rCntD (K : PySem.W.Frag) : V → List V → Hp → VK → Prop := fun x xs H Q => ∃ (a : Addr) (y : V) (d : PyData) (ds : List PyData), x = V.ref a ∧ xs = [y] ∧ Dp K H (V.ref a) (.list ds) ∧ Dp K H y d ∧
  SeqAt.shaped (.list ds) = true ∧ SeqAt.shaped d = true ∧ Q (.int (ds.countP fun z => PyData.eqv z d : Nat)) H
theorem mt_countD (hu : X.A.units + 65 < cLine) : MtR X "list.count" (rCntD X.K) := by
  intro pins s σ H x xs v us Q I rx rxs h
  obtain ⟨a, y, d, ds, rfl, rfl, hl, hy, sl, sd, q⟩ := h
  cases rx
  cases rxs with
  | cons ry rt =>
    rename_i uy ut
    cases rt
    obtain ⟨bs, r1⟩ := Dp.reads I d y uy hy ry
    have hxs : PyData.canLayAll0 ds = true := SeqAt.canLay_of_shaped sl
    have hroom : X.A.units + 1 + min (PyData.depthAll ds) d.depth < cLine := room_in_shaped sd hu
    cases hl with
    | lst hs ha =>
      obtain ⟨its, rv, ⟨⟨cls, dd, data, sls⟩, n, ho, hc, hdn, hdt⟩, hlen⟩ := I.list hs
      simp only at hc hdt
      subst hc hdt
      obtain ⟨as, h4⟩ := Dp.readsAll I ds _ its ha rv
      have hmap : its.map (SeqAt.readOf s.heap) = ds := SeqAt.readsAll_map ds its as hxs h4
      refine call_meets PySem.F.slot_list_count ⟨_, ho, rfl⟩ PySem.F.entry_list_count (PySem.F.args_list_count_2 _ _)
        (SeqAt.list_countAt a its.toArray n dd sls uy (fun u => PyData.eqv (SeqAt.readOf s.heap u) d)) ⟨ho, SeqAt.items_eqAt (vs := its.toArray) (show ReadsAll s.heap its.toArray.toList ds as from h4) r1 hxs (SeqAt.canLay_of_shaped sd) hroom, ?_⟩
      have ec : its.toArray.toList.countP (fun u => PyData.eqv (SeqAt.readOf s.heap u) d) = ds.countP fun z => PyData.eqv z d := by
        rw [← hmap, List.countP_map]; rfl
      refine ⟨.int (ds.countP fun z => PyData.eqv z d : Nat), H, I.tok _, ⟨s.toks, ?_⟩, q⟩
      show Value.int ((its.toArray.toList.countP _ : Nat) : Int) s.toks = Value.int _ s.toks
      rw [ec]
theorem pds_map : ∀ l : List D, pds l = l.map pd
  | [] => rfl
  | d :: l => by rw [pds, pds_map l]; rfl
theorem cnt_go (hu : X.A.units + 66 < cLine) {pins : List (Addr × Obj)} {s : Shared} {σ : L2.St} {H : Hp} {v : Value} {us : List Value} {Q : VK} {a : Addr} {ys : List V} {l : List D} {d : D} {w : V} {S : Sto} {Kk : DK} (I : Inv X pins σ H s) (rx : RelV (V.ref a) v) (rv : Vals [w] us) (hx : SqL X.K H a ys) (rl : RVs X.K H l ys) (r1 : RV X.K H d w) (rs : RepS X.K S H)
    (h : cntW l d S Kk) (aft : Aft X.K S H Kk Q) : wpAny (model X.prog X.w) X.A (call (.builtin "list.count") (v :: us)) (EP X pins σ Q) X.xe s := by
  obtain ⟨f, k⟩ := h
  rw [Bool.and_eq_true] at f
  have ec : (pds l).countP (fun z => PyData.eqv z (pd d)) = l.countP fun y => eqF 12 y d := by
    rw [pds_map, List.countP_map]
    refine List.countP_congr fun y hy => ?_
    rw [Function.comp_apply, eqF_eqv (List.all_eq_true.1 f.2 y hy) f.1]
  exact mt_countD (by omega) pins s σ H _ _ v us Q I rx rv ⟨a, w, pd d, pds l, rfl, rfl, .lst hx (fin_dps rl f.2), fin_dp r1 f.1, fin_shapedL f.2, fin_shaped f.1, by rw [ec]; exact aft.self rs k (.int _)⟩
/-- no tuple -/
def notTup : D → Bool
  | .tup _ => false
  | _ => true
def rMthN (K : PySem.W.Frag) (m : Mt) : V → List V → Hp → VK → Prop := fun x xs H Q => ∃ o as S Kk, notTup o = true ∧ RV K H o x ∧ RVs K H as xs ∧ RepS K S H ∧ mthW m o as S Kk ∧ Aft K S H Kk Q
def rCntT (K : PySem.W.Frag) : V → List V → Hp → VK → Prop := fun x xs H Q => ∃ l as S Kk, RV K H (.tup l) x ∧ RVs K H as xs ∧ RepS K S H ∧ mthW .count (.tup l) as S Kk ∧ Aft K S H Kk Q
theorem rMth_countT (hu : X.A.units + 66 < cLine) : MtR X "tuple.count" (rCntT X.K) := by
  intro pins s σ H x xs v us Q I rx rv ⟨l, as, S, Kk, ro, ra, rs, h, aft⟩
  cases ro with
  | @tup l a ys hp rl =>
    cases ra with
    | nil => exact False.elim h
    | @cons d ds w ws r1 r2 =>
      cases r2 with
      | cons _ _ => exact False.elim h
      | nil =>
        have h : cntW l d S Kk := h
        obtain ⟨f, k⟩ := h
        rw [Bool.and_eq_true] at f
        have ec : (pds l).countP (fun z => PyData.eqv z (pd d)) = l.countP fun y => eqF 12 y d := by
          rw [pds_map, List.countP_map]
          refine List.countP_congr fun y hy => ?_
          rw [Function.comp_apply, eqF_eqv (List.all_eq_true.1 f.2 y hy) f.1]
        cases rx
        cases rv with
        | cons ry rt =>
          rename_i uy ut
          cases rt
          obtain ⟨bs, g1⟩ := Dp.reads I (pd d) w uy (fin_dp r1 f.1) ry
          obtain ⟨its, rw', ⟨⟨cls, dd, data, sls⟩, ho, hc, n, hdt⟩, hlen⟩ := I.tuple hp.sq
          simp only at hc hdt
          subst hc hdt
          have sl : SeqAt.shaped (.list (pds l)) = true := fin_shapedL f.2
          have hxs : PyData.canLayAll0 (pds l) = true := SeqAt.canLay_of_shaped sl
          have hroom : X.A.units + 1 + min (PyData.depthAll (pds l)) (pd d).depth < cLine := room_in_shaped (fin_shaped f.1) (by omega)
          obtain ⟨cs, g4⟩ := Dp.readsAll I (pds l) _ its (fin_dps rl f.2) rw'
          have hmap : its.map (SeqAt.readOf s.heap) = pds l := SeqAt.readsAll_map (pds l) its cs hxs g4
          refine call_meets PySem.F.slot_tuple_count ⟨_, ho, rfl⟩ PySem.F.entry_tuple_count (PySem.F.args_tuple_count_2 _ _)
            (SeqAt.tuple_countAt a its.toArray n dd sls uy (fun u => PyData.eqv (SeqAt.readOf s.heap u) (pd d))) ⟨ho, SeqAt.items_eqAt (vs := its.toArray) (show ReadsAll s.heap its.toArray.toList (pds l) cs from g4) g1 hxs (SeqAt.canLay_of_shaped (fin_shaped f.1)) hroom, ?_⟩
          have ec2 : its.toArray.toList.countP (fun u => PyData.eqv (SeqAt.readOf s.heap u) (pd d)) = l.countP fun y => eqF 12 y d := by
            rw [← ec, ← hmap, List.countP_map]; rfl
          refine ⟨.int (l.countP fun y => eqF 12 y d : Nat), H, I.tok _, ⟨s.toks, ?_⟩, aft.self rs k (.int _)⟩
          show Value.int ((its.toArray.toList.countP _ : Nat) : Int) s.toks = Value.int _ s.toks
          rw [ec2]
theorem rMth_count (hu : X.A.units + 66 < cLine) : MtR X "list.count" (rMthN X.K .count) := by
  intro pins s σ H x xs v us Q I rx rv ⟨o, as, S, Kk, nt, ro, ra, rs, h, aft⟩
  cases ro with
  | ref m =>
    rcases sto_cases (S := S) (n := m) with e | ⟨l, e⟩ | ⟨l, e⟩ | ⟨c, f, e⟩ | ⟨l, e⟩
    · simp only [mthW, e] at h
    · obtain ⟨ys, hx, rl⟩ := lst_of rs e
      cases ra with
      | nil => simp only [mthW, e] at h
      | @cons d ds w ws r1 r2 =>
        cases r2 with
        | cons _ _ => simp only [mthW, e] at h
        | nil =>
          simp only [mthW, e] at h
          exact cnt_go hu I rx rv (.of hx) rl r1 rs h aft
    · cases as with
      | nil => simp only [mthW, e] at h
      | cons d ds => cases ds <;> simp only [mthW, e] at h
    · simp only [mthW, e] at h
    · simp only [mthW, e] at h
  | @fz l a ys hp rl =>
    cases ra with
    | nil => exact h.elim
    | @cons d ds w ws r1 r2 =>
      cases r2 with
      | cons _ _ => exact h.elim
      | nil => exact cnt_go hu I rx rv hp.sq rl r1 rs h aft
  | int i => cases as <;> simp only [mthW] at h
  | tup _ _ => cases nt
  | _ => exact h.elim
theorem rcv_list {m : Mt} {d : D} {v : V} {S : Sto} {H : Hp} (rs : RepS X.K S H) (r : RV X.K H d v) (h : rcvW m d S) (h1 : m ≠ .bitlen) (h2 : m ≠ .get2) (h3 : m ≠ .count ∨ notTup d = true) : tyV X.K "list" v H := by
  cases r with
  | ref q =>
    rcases sto_cases (S := S) (n := q) with e | ⟨l, e⟩ | ⟨l, e⟩ | ⟨c, f, e⟩ | ⟨l, e⟩
    · cases m <;> first | exact absurd rfl h1 | exact absurd rfl h2 | (simp only [rcvW, e] at h)
    · obtain ⟨ys, hx, rl⟩ := lst_of rs e
      exact .inl ⟨rfl, ys, .of hx⟩
    · cases m <;> first | exact absurd rfl h1 | exact absurd rfl h2 | (simp only [rcvW, e] at h)
    · cases m <;> first | exact absurd rfl h1 | exact absurd rfl h2 | (simp only [rcvW, e] at h)
    · cases m <;> first | exact absurd rfl h1 | exact absurd rfl h2 | (simp only [rcvW, e] at h)
  | @fz ds a xs hp rl => exact .inl ⟨rfl, xs, hp.sq⟩
  | tup _ _ => cases m <;> first | exact absurd rfl h1 | exact absurd rfl h2 | (rcases h3 with h3 | h3; exact absurd rfl h3; cases h3) | exact False.elim h
  | _ => cases m <;> first | exact absurd rfl h1 | exact absurd rfl h2 | exact h.elim
theorem s_mthI {m : Mt} {o : Ex} {es : Exs} (h1 : m ≠ .bitlen) (h2 : m ≠ .get2) (h3 : m ≠ .count) : ∀ σ H Q, lE X C W (.mth m o es) σ H Q → tBM X.K "list" (rMth X.K m) (lE X C W o) (lEs X C W es) σ H Q := fun σ H Q ⟨ds, S, E, Kk, rl, rs, k, aft, xk⟩ => by
  refine ⟨ds, S, E, _, rl, rs, k, fun d S1 v H1 ⟨hr, k1⟩ e1 rs1 rv => ⟨rcv_list rs1 rv hr h1 h2 (.inl h3), ?_⟩, xk⟩
  refine ⟨ds, S1, E, _, rl.mono (e1.stay rs), rs1, k1, fun l S2 vs H2 k2 e2 rs2 rvs => ?_, xk.go e1⟩
  exact ⟨d, l, S2, Kk, rv.mono (e2.stay rs1), rvs, rs2, k2, aft.go (e1.trans e2)⟩
/-- x.count(y), x a list or a tuple -/
def tCnt (K : PySem.W.Frag) (to : TE) (t : TA) : TE := fun σ H Q => to σ H fun x G => (tyV K "list" x G ∧ t σ G fun xs F => rMthN K .count x xs F Q) ∨ ((∃ p xs, x = .ref p ∧ TpS K G p xs) ∧ t σ G fun xs F => rCntT K x xs F Q)
theorem pe_cnt {o e : Expr} {es : List Expr} {to : TE} {t : TA} {ap cpos : Pos} (m1 : MtR X "list.count" (rMthN X.K .count)) (m2 : MtR X "tuple.count" (rCntT X.K)) (ho : PE X o to) (ha : PA X (e :: es) t)
    (hbase : attributeBase o (Str.ofString "count") X.env (eval o X.env) = eval o X.env)
    (hfew : ((backTo cpos (starEach (e :: es) X.env)).all (fun x => !x.1) && (backToKw cpos (keywordEach [] X.env)).all (fun x => x.1.isSome)
      && decide ((e :: es).length + ([] : List Keyword).length + (if ([] : List Keyword).isEmpty then 0 else 1) < 30)) = true)
    (hline : (ap.endLine == cpos.line) = true) (hs : starEach (e :: es) X.env = (false, eval e X.env) :: starEach es X.env) (hplain : (backTo cpos (starEach es X.env)).any (·.1) = false) :
    PE X (.Call (.Attribute o (Str.ofString "count") ap) (e :: es) [] cpos) (tCnt X.K to t) := by
  refine ⟨fun pins s σ H Q I w => ?_⟩
  refine wpAny_Call_method_late hbase hfew hline rfl (thn (ho.run pins s σ H _ I w) fun v s1 ⟨x, G, J, r1, alt⟩ => ?_)
  rcases alt with ⟨ty, q⟩ | ⟨⟨p, xs, rfl, tp⟩, q⟩
  · obtain ⟨h1, h2⟩ := tyV_is J r1 ty
    refine ⟨"list", _, F.plainAttrs_list, F.slot_list_count, F.type_list_count, h1, h2, ?_⟩
    have hA := ha.run cpos pins s1 σ G _ J q
    rw [hs] at hA ⊢
    refine Calls.callWith_builtin (by show (false || (backTo cpos (starEach es X.env)).any (·.1)) = false; rw [hplain] <;> rfl) (Calls.evalArgs_plain ?_)
    exact thn hA fun us s2 ⟨vs, F, J2, r2, q2⟩ => m1 pins s2 σ F _ vs v us Q J2 r1 r2 q2
  · cases r1
    obtain ⟨its, rv, pl, hz⟩ := J.tuple tp.sq
    have nd : ∀ a, Value.ref p = .ref a → ∃ o, s1.heap.get? a = some o ∧ o.dict = none := fun a e => by
      cases e
      rcases tp with ⟨o, h, hd⟩ | ⟨o, its, n, hk, _, hd, _⟩
      · exact ⟨o, (J.hok p _ h).1, hd⟩
      · exact ⟨o, J.kIn p o hk, hd⟩
    have r1 : RelV (V.ref p) (Value.ref p) := rfl
    refine ⟨"tuple", _, F.plainAttrs_tuple, F.slot_tuple_count, F.type_tuple_count, pl.typeIs, nd, ?_⟩
    have hA := ha.run cpos pins s1 σ G _ J q
    rw [hs] at hA ⊢
    refine Calls.callWith_builtin (by show (false || (backTo cpos (starEach es X.env)).any (·.1)) = false; rw [hplain] <;> rfl) (Calls.evalArgs_plain ?_)
    exact thn hA fun us s2 ⟨vs, F, J2, r2, q2⟩ => m2 pins s2 σ F _ vs _ us Q J2 r1 r2 q2
theorem s_cntI {o : Ex} {es : Exs} : ∀ σ H Q, lE X C W (.mth .count o es) σ H Q → tCnt X.K (lE X C W o) (lEs X C W es) σ H Q := fun σ H Q ⟨ds, S, E, Kk, rl, rs, k, aft, xk⟩ => by
  refine ⟨ds, S, E, _, rl, rs, k, fun d S1 v H1 ⟨hr, k1⟩ e1 rs1 rv => ?_, xk⟩
  by_cases nt : notTup d = true
  · refine .inl ⟨rcv_list rs1 rv hr (by decide) (by decide) (.inr nt), ?_⟩
    refine ⟨ds, S1, E, _, rl.mono (e1.stay rs), rs1, k1, fun l S2 vs H2 k2 e2 rs2 rvs => ?_, xk.go e1⟩
    exact ⟨d, l, S2, Kk, nt, rv.mono (e2.stay rs1), rvs, rs2, k2, aft.go (e1.trans e2)⟩
  · cases rv with
    | @tup tl p xs hp rv' =>
      refine .inr ⟨⟨p, xs, rfl, hp⟩, ?_⟩
      refine ⟨ds, S1, E, _, rl.mono (e1.stay rs), rs1, k1, fun l S2 vs H2 k2 e2 rs2 rvs => ?_, xk.go e1⟩
      exact ⟨tl, l, S2, Kk, (RV.tup hp rv').mono (e2.stay rs1), rvs, rs2, k2, aft.go (e1.trans e2)⟩
    | _ => exact absurd rfl nt
theorem few_of {e : Expr} {l : List Expr} (hs : isStar e = false) (pl : Pl X l) (hf : fewB l = true) (cpos : Pos) : (((backTo cpos (starEach (e :: l) X.env)).all (fun x => !x.1) && (backToKw cpos (keywordEach [] X.env)).all (fun x => x.1.isSome)
      && decide ((e :: l).length + ([] : List Keyword).length + (if ([] : List Keyword).isEmpty then 0 else 1) < 30)) = true) := by
  rw [(Pl.cons hs pl).all]
  unfold fewB at hf
  have hf' := of_decide_eq_true hf
  simp [backTo, keywordEach, backToKw, Function.comp_def]
  omega
theorem s_mth {m : Mt} {o : Ex} {es : Exs} {e : Expr} {l : List Expr} {ap : Pos} (hu : X.A.units + 66 < cLine) (h1 : m = .append ∨ m = .extend ∨ m = .pop1 ∨ m = .insert ∨ m = .index ∨ m = .count) (hn : noSup x = true) (hl : (ap.endLine == pos.line) = true) (hf : fewB l = true) (ho : PE X x (lE X C W o)) (ha : PA X (e :: l) (lEs X C W es)) (hs : isStar e = false) (pl : Pl X l) :
    PE X (.Call (.Attribute x (Str.ofString (mtName m)) ap) (e :: l) [] pos) (lE X C W (.mth m o es)) := by
  rcases h1 with rfl | rfl | rfl | rfl | rfl | rfl
  · exact (pe_bm F.plainAttrs_list F.slot_list_append F.type_list_append rMth_append ho ha (noSup_ok hn _ _) (few_of hs pl hf pos) hl (star_cons hs) (pl.any pos)).imp (s_mthI (by decide) (by decide) (by decide))
  · exact (pe_bm F.plainAttrs_list F.slot_list_extend F.type_list_extend rMth_extend ho ha (noSup_ok hn _ _) (few_of hs pl hf pos) hl (star_cons hs) (pl.any pos)).imp (s_mthI (by decide) (by decide) (by decide))
  · exact (pe_bm F.plainAttrs_list F.slot_list_pop F.type_list_pop rMth_pop1 ho ha (noSup_ok hn _ _) (few_of hs pl hf pos) hl (star_cons hs) (pl.any pos)).imp (s_mthI (by decide) (by decide) (by decide))
  · exact (pe_bm F.plainAttrs_list F.slot_list_insert F.type_list_insert rMth_insert ho ha (noSup_ok hn _ _) (few_of hs pl hf pos) hl (star_cons hs) (pl.any pos)).imp (s_mthI (by decide) (by decide) (by decide))
  · exact (pe_bm F.plainAttrs_list F.slot_list_index F.type_list_index (rMth_index hu) ho ha (noSup_ok hn _ _) (few_of hs pl hf pos) hl (star_cons hs) (pl.any pos)).imp (s_mthI (by decide) (by decide) (by decide))
  · exact (pe_cnt (rMth_count hu) (rMth_countT hu) ho ha (noSup_ok hn _ _) (few_of hs pl hf pos) hl (star_cons hs) (pl.any pos)).imp s_cntI
theorem s_pop0 {o : Ex} {ap : Pos} (hn : noSup x = true) (hl : (ap.endLine == pos.line) = true) (ho : PE X x (lE X C W o)) : PE X (.Call (.Attribute x (Str.ofString "pop") ap) [] [] pos) (lE X C W (.mth .pop0 o .nil)) := by
  refine (pe_bm0 F.plainAttrs_list F.slot_list_pop F.type_list_pop rMth_pop0 ho (noSup_ok hn _ _) hl).imp fun σ H Q ⟨ds, S, E, Kk, rl, rs, k, aft, xk⟩ => ?_
  refine ⟨ds, S, E, _, rl, rs, k, fun d S1 v H1 ⟨hr, k1⟩ e1 rs1 rv => ⟨rcv_list rs1 rv hr (by decide) (by decide) (.inl (by decide)), ?_⟩, xk⟩
  exact ⟨d, [], S1, Kk, rv, .nil, rs1, k1, aft.go e1⟩
theorem s_bits {o : Ex} {ap : Pos} (hn : noSup x = true) (hl : (ap.endLine == pos.line) = true) (ho : PE X x (lE X C W o)) : PE X (.Call (.Attribute x (Str.ofString "bit_length") ap) [] [] pos) (lE X C W (.mth .bitlen o .nil)) := by
  refine (pe_bits ho (noSup_ok hn _ _) hl).imp fun σ H Q ⟨ds, S, E, Kk, rl, rs, k, aft, xk⟩ => ?_
  refine ⟨ds, S, E, _, rl, rs, k, fun d S1 v H1 ⟨hr, k1⟩ e1 rs1 rv => ?_, xk⟩
  cases rv with
  | int i =>
    refine ⟨i, rfl, (aft.go e1).self rs1 ?_ (.int _)⟩
    have k2 : Kk (.int (blen i)) S1 := k1
    have e : blen i = ((Builtin.Int.intBits i : Nat) : Int) := by
      unfold blen Builtin.Int.intBits
      by_cases h : i = 0
      · subst h; rfl
      · rw [if_neg h, if_neg (by simpa using h)]
        rfl
    rw [← e]
    exact k2
  | _ => exact hr.elim
theorem s_get2 {o : Ex} {a b : Ex} {ap : Pos} (hu : X.A.units + 66 < cLine) (hn : noSup x = true) (hl : (ap.endLine == pos.line) = true) (ho : PE X x (lE X C W o)) (ha : PE X y (lE X C W a)) (hb : PE X z (lE X C W b)) (h1 : isStar y = false) (h2 : isStar z = false) :
    PE X (.Call (.Attribute x (Str.ofString "get") ap) [y, z] [] pos) (lE X C W (.mth .get2 o (.cons a (.cons b .nil)))) := by
  have pl : Pl X [y, z] := .cons h1 (.cons h2 .nil)
  refine (pe_dget2 (by omega) ho ha hb ⟨noSup_ok hn _ _, few_of h1 (.cons h2 .nil) rfl pos, hl, by rw [pl.all]; rfl⟩).imp fun σ H Q ⟨ds, S, E, Kk, rl, rs, k, aft, xk⟩ => ?_
  refine ⟨ds, S, E, _, rl, rs, k, fun d S1 v H1 ⟨hr, k1⟩ e1 rs1 rv => ?_, xk⟩
  cases rv with
  | ref q =>
    rcases sto_cases (S := S1) (n := q) with e | ⟨l, e⟩ | ⟨l, e⟩ | ⟨c, f, e⟩ | ⟨l, e⟩
    · simp only [rcvW, e] at hr
    · simp only [rcvW, e] at hr
    · obtain ⟨kv, e0, _⟩ := rs1 q _ e
      refine ⟨q, rfl, .inl ⟨kv, .inl e0⟩, ?_⟩
      refine s_two (R := fun v w H2 => ∃ o, DGet H2 q v o ∧ Q (o.getD w) H2) (rl.mono (e1.stay rs)) rs1 k1 (xk.go e1) fun d e' S2 v w H2 k2 e2 rs2 r1 r2 => ?_
      have k2 : mthW .get2 (.ref q) [d, e'] S2 Kk := k2
      rcases sto_cases (S := S2) (n := q) with e3 | ⟨l, e3⟩ | ⟨l, e3⟩ | ⟨c, f, e3⟩ | ⟨l, e3⟩
      · simp only [mthW, e3] at k2
      · simp only [mthW, e3] at k2
      · simp only [mthW, e3] at k2
        rcases dic_get rs2 e3 r1 k2.1 with ⟨g1, g⟩ | ⟨y', w', g1, g, r⟩
        · refine ⟨_, g, ?_⟩
          have k3 := k2.2
          rw [g1] at k3
          exact (aft.go (e1.trans e2)).self rs2 k3 r2
        · refine ⟨_, g, ?_⟩
          have k3 := k2.2
          rw [g1] at k3
          exact (aft.go (e1.trans e2)).self rs2 k3 r
      · simp only [mthW, e3] at k2
      · simp only [mthW, e3] at k2
    · simp only [rcvW, e] at hr
    · simp only [rcvW, e] at hr
  | _ => exact hr.elim
/-! ### tests -/
theorem s_tru {a : Ex} (h : PE X x (lE X C W a)) (he : ∀ whole, isTrue x X.env whole = (do let v ← whole; standAt x.pos; holding [v] (truthy v))) : PT X x (lT X C W a) :=
  (pt_truth h he).imp fun σ H Q ⟨ds, S, E, Kk, rl, rs, k, aft, xk⟩ =>
    ⟨ds, S, E, Kk, rl, rs, k, fun d S1 v H1 k1 e1 rs1 rv => let ⟨b, eb, q⟩ := aft d S1 H1 k1 e1 rs1; ⟨b, truth_ok rs1 rv eb, q⟩, xk⟩
theorem t_not {a : Ex} (ha : PT X x (lT X C W a)) : PT X (.UnaryOp .Not x pos) (lT X C W (.not a)) := by
  refine (pt_not ha).imp fun σ H Q ⟨ds, S, E, Kk, rl, rs, k, aft, xk⟩ => ?_
  refine ⟨ds, S, E, _, rl, rs, k, fun d S1 H1 ⟨b, eb, k1⟩ e1 rs1 => ⟨b, eb, ?_⟩, xk⟩
  obtain ⟨c, ec, q⟩ := aft _ S1 H1 k1 e1 rs1
  have ec' : some (!b) = some c := ec
  cases ec'
  exact q
theorem t_and {a b : Ex} {r : List Expr} (ha : PT X x (lT X C W a)) (hb : PW X (.BoolOp .And (y :: r) pos) (lT X C W b)) : PW X (.BoolOp .And (x :: y :: r) pos) (lT X C W (.and a b)) := by
  refine (pw_and ha hb).imp fun σ H Q ⟨ds, S, E, Kk, rl, rs, k, aft, xk⟩ => ?_
  refine ⟨ds, S, E, _, rl, rs, k, fun d S1 H1 ⟨c, ec, k1⟩ e1 rs1 => ⟨c, ec, ?_⟩, xk⟩
  cases c with
  | true =>
    rw [if_pos rfl] at k1 ⊢
    exact ⟨ds, S1, E, Kk, rl.mono (e1.stay rs), rs1, k1, fun d S2 H2 h1 h2 h3 => aft d S2 H2 h1 (e1.trans h2) h3, xk.go e1⟩
  | false =>
    rw [if_neg Bool.false_ne_true] at k1 ⊢
    obtain ⟨c, ec', q⟩ := aft _ S1 H1 k1 e1 rs1
    rw [ec] at ec'
    cases ec'
    exact q
theorem t_or {a b : Ex} {r : List Expr} (ha : PT X x (lT X C W a)) (hb : PW X (.BoolOp .Or (y :: r) pos) (lT X C W b)) : PW X (.BoolOp .Or (x :: y :: r) pos) (lT X C W (.or a b)) := by
  refine (pw_or ha hb).imp fun σ H Q ⟨ds, S, E, Kk, rl, rs, k, aft, xk⟩ => ?_
  refine ⟨ds, S, E, _, rl, rs, k, fun d S1 H1 ⟨c, ec, k1⟩ e1 rs1 => ⟨c, ec, ?_⟩, xk⟩
  cases c with
  | false =>
    rw [if_neg Bool.false_ne_true] at k1 ⊢
    exact ⟨ds, S1, E, Kk, rl.mono (e1.stay rs), rs1, k1, fun d S2 H2 h1 h2 h3 => aft d S2 H2 h1 (e1.trans h2) h3, xk.go e1⟩
  | true =>
    rw [if_pos rfl] at k1 ⊢
    obtain ⟨c, ec', q⟩ := aft _ S1 H1 k1 e1 rs1
    rw [ec] at ec'
    cases ec'
    exact q
theorem t_cmp {op : Cop} {a b : Ex} (hu : X.A.units + 66 < cLine) (ha : PE X x (lE X C W a)) (hb : PE X y (lE X C W b)) (hm : notSet y = true) : PT X (.Compare x [copOf op] [y] pos) (lT X C W (.cmp op a b)) := by
  refine (pt_cmpR (op_cmp hu op) ha hb (noMark hm _)).imp fun σ H Q ⟨ds, S, E, Kk, rl, rs, k, aft, xk⟩ => ?_
  exact s_two (R := fun v w H2 => rCmp X.K op v w H2 _) rl rs k xk fun d e S2 v w H2 k2 e2 rs2 r1 r2 => ⟨d, e, S2, _, r1, r2, rs2, k2, fun c kc => by
    obtain ⟨c', ec, q⟩ := aft _ S2 H2 kc e2 rs2
    cases ec
    exact ⟨c, rfl, q⟩⟩
theorem t_chn {o1 o2 : Cop} {a b c : Ex} (hu : X.A.units + 66 < cLine) (ha : PE X x (lE X C W a)) (hb : PE X y (lE X C W b)) (hc : PE X z (lE X C W c)) (hm : notSet z = true) :
    PT X (.Compare x [copOf o1, copOf o2] [y, z] pos) (lT X C W (.chn o1 o2 a b c)) := by
  refine (pt_chain (op_cmp hu o1) (op_cmp hu o2) ha hb hc (show behindInMarks (copOf o2) z = false from noMark hm _)).imp fun σ H Q ⟨ds, S, E, Kk, rl, rs, k, aft, xk⟩ => ?_
  refine s_two (R := fun v w H2 => rCmp X.K o1 v w H2 _) rl rs k xk fun d e S2 v w H2 k2 e2 rs2 r1 r2 => ⟨d, e, S2, _, r1, r2, rs2, k2, fun c kc => ⟨c, rfl, ?_⟩⟩
  cases c with
  | false =>
    rw [if_neg Bool.false_ne_true] at kc ⊢
    obtain ⟨c', ec, q⟩ := aft _ S2 H2 kc e2 rs2
    cases ec
    exact ⟨false, rfl, q⟩
  | true =>
    rw [if_pos rfl] at kc ⊢
    refine ⟨ds, S2, E, _, rl.mono (e2.stay rs), rs2, kc, fun f S3 u H3 k3 e3 rs3 r3 => ?_, xk.go e2⟩
    refine ⟨e, f, S3, _, r2.mono (e3.stay rs2), r3, rs3, k3, fun c' kc' => ?_⟩
    obtain ⟨c2, ec, q⟩ := aft _ S3 H3 kc' (e2.trans e3) rs3
    cases ec
    exact ⟨c', rfl, q⟩
end
end Ev
set_option Elab.async false
set_option linter.all false
set_option maxRecDepth 100000
set_option maxHeartbeats 1000000
/-! EvK: sorted(xs, key=f), f a def of the text, xs ints. -/
namespace Ev
open PySem PySem.Spec PyProof.Rows L2 PySem.Calls PySem.W

/-- the same but for slots -/
def SlK (g h : Heap) : Prop := ∀ b o, g.get? b = some o → ∃ sl, h.get? b = some { o with slots := sl }
mutual
theorem reads_sl {g h : Heap} (k : SlK g h) : ∀ {v : Value} {d : PyData} {as : List Addr}, Reads g v d as → Reads h v d as
  | _, _, _, .none => .none
  | _, _, _, .bool b => .bool b
  | _, _, _, .int i t => .int i t
  | _, _, _, .str x t => .str x t
  | _, _, _, .list e c d r => by
    obtain ⟨sl, e'⟩ := k _ _ e
    exact .list e' c d (readsA_sl k r)
  | _, _, _, .tuple e c d r => by
    obtain ⟨sl, e'⟩ := k _ _ e
    exact .tuple e' c d (readsA_sl k r)
  | _, _, _, .dict e c d r1 r2 => by
    obtain ⟨sl, e'⟩ := k _ _ e
    exact .dict e' c d (readsA_sl k r1) (readsA_sl k r2)
theorem readsA_sl {g h : Heap} (k : SlK g h) : ∀ {v : List Value} {d : List PyData} {as : List Addr}, ReadsAll g v d as → ReadsAll h v d as
  | _, _, _, .nil => .nil
  | _, _, _, .cons r t => .cons (reads_sl k r) (readsA_sl k t)
end
/-- all of g but a stands in h; at fz but for the slots -/
structure Kp (a : Addr) (fz : List Addr) (g h : Heap) : Prop where
  all : ∀ b o, b ≠ a → b ∉ fz → g.get? b = some o → h.get? b = some o
  sl : ∀ b o, b ≠ a → g.get? b = some o → ∃ sl, h.get? b = some { o with slots := sl }
/-- a call that leaves all that was there, and gives a key that reads as k -/
def KeyGo (fz : List Addr) (k : PyData) (t : Shared) (v : Value) (u : Shared) : Prop := u.os = t.os ∧ AllBare u.gens ∧ (∀ b o, b ∉ fz → t.heap.get? b = some o → u.heap.get? b = some o) ∧ SlK t.heap u.heap ∧ Reads u.heap v k []
/-- a state later than t -/
def Lat (t u : Shared) : Prop := u.os = t.os ∧ AllBare u.gens
theorem Kp.same {a c : Addr} {fz : List Addr} {g h h' : Heap} (k : Kp a fz g h) (hs : Heap.SameBut c h h') (hc : c = a ∨ g.get? c = none) : Kp a fz g h' := by
  have ne : ∀ b o, b ≠ a → g.get? b = some o → b ≠ c := fun b o hb e z => by
    subst z
    rcases hc with rfl | hc
    · exact hb rfl
    · rw [hc] at e; cases e
  refine ⟨fun b o hb hf e => (hs.2 b (ne b o hb e)).trans (k.all b o hb hf e), fun b o hb e => ?_⟩
  obtain ⟨sl, h1⟩ := k.sl b o hb e
  exact ⟨sl, (hs.2 b (ne b o hb e)).trans h1⟩
theorem Kp.go {a : Addr} {fz : List Addr} {g h h' : Heap} (k : Kp a fz g h) (h1 : ∀ b o, b ∉ fz → h.get? b = some o → h'.get? b = some o) (h2 : SlK h h') : Kp a fz g h' := by
  refine ⟨fun b o hb hf e => h1 b o hf (k.all b o hb hf e), fun b o hb e => ?_⟩
  obtain ⟨sl, e1⟩ := k.sl b o hb e
  obtain ⟨sl2, e2⟩ := h2 b _ e1
  exact ⟨sl2, e2⟩
section
variable {prog : Program} {w : World} {A : Around} {E : Value → Shared → Prop} {s : Shared} {a kS : Addr} {vs : List Value} {e1 : Nat} {P : PySem.Fin → Shared → Prop} {kz : List PyData} {fz : List Addr}
theorem keys_go {f : Value} {g₀ : Heap} (kp : Kp a fz g₀ s.heap) (fK : kS ∉ fz) (fA : a ∉ fz) (bare : AllBare s.gens) (fresh : g₀.get? kS = none) (isK : s.heap.get? kS = some (seqObj "list" #[] 0)) (isA : s.heap.get? a = some (seqObj "list" #[] e1)) (ne : kS ≠ a)
    (len : kz.length = vs.length) (small : vs.length ≤ sizeLine) (like : AllAlike kz) (sortable : Sortable kz) (units : ∀ d, d ∈ kz → A.units + d.depth < cLine)
    (turn : ∀ (i : Nat) (v : Value) (k : PyData), vs[i]? = some v → kz[i]? = some k → ∀ u : Shared, Kp a fz g₀ u.heap → Lat s u → wpAny (model prog w) A (call f [v]) (KeyGo fz k u) (fun _ _ => False) u)
    (fin : ∀ u out c, Kp a fz g₀ u.heap → Lat s u → u.heap.get? a = some (seqObj "list" (List.toArray out) c) → KeyedOut false kz vs out → P (.done (.ret .none)) u) :
    wpAny (model prog w) A (ksk_rest a f false vs.toArray e1 (.ref kS)) P E s := by
  unfold ksk_rest
  apply wpAny_bind
  apply wpAny_rule
  rw [List.forIn_toArray]
  apply wpAny_bind
  let In : Nat → Shared → Prop := fun i u => Lat s u ∧ Kp a fz g₀ u.heap ∧ u.heap.get? a = some (seqObj "list" #[] e1) ∧ ∃ ks c, u.heap.get? kS = some (seqObj "list" ks c) ∧ EachIs (fun v k => Reads u.heap v k [] ∧ alike k k = true) ks.toList (kz.take i)
  have start : In 0 s := ⟨⟨rfl, bare⟩, kp, isA, #[], 0, isK, by rw [List.take_zero]; exact EachIs.nil⟩
  refine ksk_fold In vs 0 s start (fun j x u hx hI => ?_) (fun u hI => ?_)
  · rw [Nat.zero_add] at hI ⊢
    obtain ⟨late, kp', isA', ks, c, isK', each⟩ := hI
    have hj : j < vs.length := (List.getElem?_eq_some_iff.mp hx).1
    obtain ⟨k, hk⟩ : ∃ k, kz[j]? = some k := ⟨_, List.getElem?_eq_getElem (by omega)⟩
    have self : alike k k = true := like k (List.mem_of_getElem? hk) k (List.mem_of_getElem? hk)
    have hz : ks.size ≤ vs.length := by
      have h1 := each.length
      rw [Array.length_toList, List.length_take] at h1
      omega
    apply wpAny_bind
    apply wpAny_attempt
    refine wpAny_mono (turn j x k hx hk u kp' late) (fun v t hg => ?_) fun _ _ z => z.elim
    obtain ⟨os, bare', all, sl, reads⟩ := hg
    have isK2 := all _ _ fK isK'
    have isA2 := all _ _ fA isA'
    have but := Heap.SameBut.update t.heap kS (Obj.mapSeq (·.push v))
    obtain ⟨c2, hc2⟩ : ∃ c2, (t.heap.update kS (Obj.mapSeq (·.push v))).get? kS = some (seqObj "list" (ks.push v) c2) := ⟨_, get?_update_seq isK2 (·.push v)⟩
    have more : kz.take (j + 1) = kz.take j ++ [k] := by
      rw [List.take_add_one, hk]
      simp
    have push : (ks.push v).toList = ks.toList ++ [v] := by simp
    have keep : ∀ (z : Value) (d : PyData), Reads t.heap z d [] ∧ alike d d = true → Reads (t.heap.update kS (Obj.mapSeq (·.push v))) z d [] ∧ alike d d = true := fun z d q =>
      ⟨Reads.keepBut (a := kS) (fun b o hb e => (but.2 b hb).trans e) (fun o e => by rw [isK2] at e; rw [← Option.some.inj e]) d z [] q.2 q.1 (by simp), q.2⟩
    try dsimp only
    apply wpAny_bind
    refine listUpdate_at isK2 rfl ?_ (Nat.le_trans hz small) (Nat.le_trans (Nat.le_of_eq (Array.size_push ..)) (Nat.succ_le_succ (Nat.le_trans hz small)))
    refine wpAny_pure ⟨rfl, ⟨os.trans late.1, bare'⟩, (kp'.go all sl).same but (.inr fresh), (but.2 a ne.symm).trans isA2, ks.push v, c2, hc2, ?_⟩
    rw [push, more]
    exact each_snoc (R := fun (z : Value) (d : PyData) => Reads (t.heap.update kS (Obj.mapSeq (·.push v))) z d [] ∧ alike d d = true) (keep v k ⟨reads, self⟩) (each.mono fun z d q => keep z d ⟨reads_sl sl q.1, q.2⟩)
  · obtain ⟨late, kp', isA', ks, c, isK', each⟩ := hI
    rw [List.take_of_length_le (by omega)] at each
    have each' : EachIs (fun v k => ∃ as, Reads u.heap v k as) ks.toList kz := each.mono fun v k q => ⟨[], q.1⟩
    have size : ks.size = vs.length := by
      have h1 := each'.length
      rw [Array.length_toList] at h1
      omega
    try dsimp only
    apply wpAny_bind
    refine listItems_at isK' rfl ?_
    obtain ⟨G, g1, g2⟩ := L2.restrict u.heap fun b => decide (b ≠ kS)
    have gk : G.get? kS = none := g2 kS (decide_eq_false (fun z => z rfl))
    have ge : ∀ b, b ≠ kS → G.get? b = u.heap.get? b := fun b hb => g1 b (decide_eq_true hb)
    have gs : ∀ b o, G.get? b = some o → u.heap.get? b = some o := fun b o e => by
      by_cases h : b = kS
      · rw [h, gk] at e; cases e
      · rw [← ge b h]; exact e
    refine keyH_end (κ := dataKind u.heap kz) (h₁ := G) (fun b o _ e => gs b o e) gk isK' isA' ne (SortsAt.data (s := u) each' like sortable units) size small fun g tk c k3 n3 => fin { u with heap := g, toks := tk } _ c ⟨fun b o hb hf e => ?_, fun b o hb e => ?_⟩ late n3 ⟨u.heap, ks.toList, like, rfl, each'⟩
    · have nk : b ≠ kS := by rintro rfl; rw [fresh] at e; cases e
      exact k3 b o hb ((ge b nk).trans (kp'.all b o hb hf e))
    · have nk : b ≠ kS := by rintro rfl; rw [fresh] at e; cases e
      obtain ⟨sl, e2⟩ := kp'.sl b o hb e
      exact ⟨sl, k3 b _ hb ((ge b nk).trans e2)⟩
theorem keys_tree {f : Value} {n : Nat} (isA : s.heap.get? a = some (seqObj "list" vs.toArray n)) (fA : a ∉ fz) (fN : s.heap.objs.size + 1 ∉ fz) (bare : AllBare s.gens) (len : kz.length = vs.length) (small : vs.length ≤ sizeLine) (like : AllAlike kz) (sortable : Sortable kz) (units : ∀ d, d ∈ kz → A.units + d.depth < cLine)
    (turn : ∀ (i : Nat) (v : Value) (k : PyData), vs[i]? = some v → kz[i]? = some k → ∀ u : Shared, Kp a fz s.heap u.heap → Lat s u → wpAny (model prog w) A (call f [v]) (KeyGo fz k u) (fun _ _ => False) u)
    (fin : ∀ u out c, Kp a fz s.heap u.heap → Lat s u → u.heap.get? a = some (seqObj "list" (List.toArray out) c) → KeyedOut false kz vs out → P (.done (.ret .none)) u) :
    wpAny (model prog w) A (ksk_tree a f false) P E s := by
  have below : a < s.heap.objs.size := Heap.lt_size isA
  obtain ⟨ep, isA1⟩ : ∃ ep, (s.heap.update a (Obj.mapSeq fun _ => (#[] : Array Value))).get? a = some (seqObj "list" #[] ep) := ⟨_, get?_update_seq isA fun _ => #[]⟩
  have place : ((s.heap.update a (Obj.mapSeq fun _ => (#[] : Array Value))).push (seqObj "tuple" vs.toArray 0)).objs.size = s.heap.objs.size + 1 := by rw [size_push', Heap.size_update]
  have old : Kp a fz s.heap (sortingHeap s.heap a vs) := ⟨fun b o hb _ q => sortingHeap_old hb q, fun b o hb q => ⟨o.slots, sortingHeap_old hb q⟩⟩
  unfold ksk_tree
  apply wpAny_bind
  refine listItems_at isA rfl ?_
  apply wpAny_bind
  refine listUpdate_at isA rfl ?_ (by rw [List.size_toArray]; exact small) (Nat.zero_le _)
  apply wpAny_bind
  refine seqEpoch_at isA1 rfl ?_
  apply wpAny_bind
  refine wpAny_newTuple ?_ (by show vs.length ≤ _; exact small)
  apply wpAny_bind
  refine wpAny_newList ?_ (Nat.zero_le _)
  apply wpAny_holding
  exact keys_go (kz := kz) (g₀ := s.heap) (s := { s with heap := ((s.heap.update a (Obj.mapSeq fun _ => (#[] : Array Value))).push (seqObj "tuple" vs.toArray 0)).push (seqObj "list" #[] 0) })
    (kS := ((s.heap.update a (Obj.mapSeq fun _ => (#[] : Array Value))).push (seqObj "tuple" vs.toArray 0)).objs.size) old (by rw [place]; exact fN) fA bare (Heap.get?_none_of_le (by rw [place]; exact Nat.le_succ _)) (Heap.get?_push_size _ rfl)
    (Heap.get?_push_of_some _ (Heap.get?_push_of_some _ isA1)) (by rw [place]; exact Nat.ne_of_gt (Nat.lt_succ_of_lt below)) len small like sortable units turn fin
end
section
variable {prog : Program} {w : World} {A : Around} {E : Value → Shared → Prop} {s : Shared} {β : Type} {vs : List Value} {bs : List β} {R : Value → β → Prop} {fz : List Addr}
theorem sorted_keys {l f : Addr} {Q : Value → Shared → Prop} (k : β → PyData) (isL : s.heap.IsList l vs.toArray) (bare : AllBare s.gens) (each : EachIs R vs bs) (like : AllAlike (bs.map k)) (sortable : Sortable (bs.map k)) (small : bs.length ≤ sizeLine) (below : ∀ b ∈ fz, b < s.heap.objs.size)
    (units : ∀ x, x ∈ bs → A.units + 2 + (k x).depth < cLine)
    (turn : ∀ (v : Value) (x : β), R v x → x ∈ bs → ∀ u : Shared, (∀ b o, b ∉ fz → s.heap.get? b = some o → u.heap.get? b = some o) → SlK s.heap u.heap → Lat s u → wpAny (model prog w) A.in1.in1 (call (.ref f) [v]) (KeyGo fz (k x) u) (fun _ _ => False) u)
    (fin : ∀ out c u, (∀ b o, b ∉ fz → s.heap.get? b = some o → u.heap.get? b = some o) → SlK s.heap u.heap → Lat s u → s.heap.get? (s.heap.objs.size + 1) = none → u.heap.get? (s.heap.objs.size + 1) = some (seqObj "list" (List.toArray out) c) → EachIs R out (bs.mergeSort (dataLe false k)) → Q (.ref (s.heap.objs.size + 1)) u) :
    wpAny (model prog w) A (call (.builtin "sorted") [.ref l] [(Str.ofString "key", .ref f)]) Q E s := by
  have none' : s.heap.get? (s.heap.objs.size + 1) = none := Heap.get?_none_of_le (Nat.le_succ _)
  have up : ∀ {g : Heap}, Kp (s.heap.objs.size + 1) fz (copyHeap s.heap vs) g → ∀ b o, b ∉ fz → s.heap.get? b = some o → g.get? b = some o := fun {g} kp b o hf q =>
    kp.all b o (Nat.ne_of_lt (Nat.lt_succ_of_lt (Heap.lt_size q))) hf (copyHeap_old q)
  have up2 : ∀ {g : Heap}, Kp (s.heap.objs.size + 1) fz (copyHeap s.heap vs) g → SlK s.heap g := fun {g} kp b o q =>
    kp.sl b o (Nat.ne_of_lt (Nat.lt_succ_of_lt (Heap.lt_size q))) (copyHeap_old q)
  have grow : s.heap.objs.size + 1 < (copyHeap s.heap vs).objs.size := Heap.lt_size (copyHeap_at s.heap vs)
  have out : ∀ n, s.heap.objs.size ≤ n → n ∉ fz := fun n hn hf => absurd (below n hf) (Nat.not_lt.mpr hn)
  have len : (bs.map k).length = vs.length := by rw [List.length_map]; exact each.length.symm
  have sm : vs.length ≤ sizeLine := by rw [each.length]; exact small
  refine sorted_of_sort isL sm (ksk_s1 _ _) (fun _ => ksk_l1 _ _) fun E' => ?_
  rw [ksk_t1]
  refine keys_tree (kz := bs.map k) (s := { s with heap := copyHeap s.heap vs }) (copyHeap_at s.heap vs) (out _ (by omega)) (out _ (by have := grow; show s.heap.objs.size ≤ (copyHeap s.heap vs).objs.size + 1; omega)) bare len sm like sortable (bound_map (A := A.in1.in1) units) (fun i v d hv hd u kp late => ?_) fun u out c kp late hD ko => ⟨rfl, ?_⟩
  · rw [List.getElem?_map] at hd
    cases q : bs[i]? with
    | none => rw [q] at hd; cases hd
    | some x =>
      rw [q] at hd
      cases hd
      exact turn v x (each.zip (v, x) (List.mem_of_getElem? (i := i) (by rw [List.getElem?_zip_eq_some]; exact ⟨hv, q⟩))) (List.mem_of_getElem? q) u (up kp) (up2 kp) late
  · exact fin out c u (up kp) (up2 kp) late none' hD (keyedOut_each k ko each)
end
end Ev
set_option Elab.async false
set_option linter.all false
set_option maxRecDepth 100000
set_option maxHeartbeats 1000000
/-! EvK2: the same in the hand layer. -/
namespace Ev
open PySem PySem.Spec PyProof.Rows L2 PySem.Calls PySem.W

theorem reads_ints {g : Heap} : ∀ {l : List Int} {us : List Value}, Vals (l.map V.int) us → ReadsAll g us (l.map PyData.int) []
  | [], _, .nil => .nil
  | i :: l, _, .cons r t => by
    obtain ⟨tk, rfl⟩ := r
    exact readsAll_cons_val (.int i tk) (reads_ints t)
theorem alike_tuples (a b : List Int) : alike (.tuple (a.map .int)) (.tuple (b.map .int)) = true := by
  unfold alike
  exact alike_ints a b
def keyD (key : Int → List Int) (i : Int) : PyData := .tuple ((key i).map .int)
section
variable {X : Cx} {pins : List (Addr × Obj)} {σ : L2.St} {H : Hp} {s : Shared}
/-- sorted(xs, key=f): xs ints, f's key a tuple of ints, told of no tracked thing -/
theorem sort_def {Q : VK} {a f : Addr} {fd : FuncData} {ps : List Str} {sp : Sp} {m : Nat} {z : List Int} {key : Int → List Int} (I : Inv X pins σ H s) (hs : SqL X.K H a (z.map V.int)) (F : FnOk X.prog X.w X.K X.mg X.base (L2.CX X.prog X.w) m f fd ps sp) (hb : Binds X.K fd ps []) (hr : z ≠ [] → Room m X.A.in1.in1)
    (hu : X.A.units + 66 < cLine) (hne : ∀ i, key i ≠ []) (hsp : ∀ i ∈ z, sp [.int i] (fun _ => none) (fun v H' => ∃ t, v = .ref t ∧ SqT X.K H' t ((key i).map V.int)) (fun _ _ _ => False))
    (q : ∀ p, H p = none → Q (.ref p) (upd H p (.lst ((z.mergeSort (dataLe false (keyD key))).map V.int)))) :
    wpAny (model X.prog X.w) X.A (call (.builtin "sorted") [.ref a] [(Str.ofString "key", .ref f)]) (EP X pins σ Q) X.xe s := by
  obtain ⟨its, rv, hl, hz⟩ := I.list hs
  have each : EachIs (fun v i => ∃ t, v = Value.int i t) its z := by
    have go : ∀ {l : List Int} {us : List Value}, Vals (l.map V.int) us → EachIs (fun v i => ∃ t, v = Value.int i t) us l := fun {l} => by
      induction l with
      | nil => intro us h; cases h; exact .nil
      | cons i l ih =>
        intro us h
        cases h with
        | cons r t => exact .cons r (ih t)
    exact go rv
  have small : z.length ≤ sizeLine := by rw [List.length_map] at hz; exact hz
  have dep : ∀ x, (keyD key x).depth ≤ 2 := fun x => by
    unfold keyD
    simp only [PyData.depth, depth_ints]
    omega
  have fr : ∀ b ∈ frs X.stack, b < s.heap.objs.size := fun b hb => by
    obtain ⟨_, o, e, _⟩ := I.env0.funs.mem hb
    exact Heap.lt_size e
  have still : ∀ {hh : Heap}, (∀ b o, b ∉ frs X.stack → s.heap.get? b = some o → hh.get? b = some o) → HOk X.prog X.w H hh := fun {hh} keep b o e =>
    (I.hok b o e).stay (fun c u hc q => keep c u (fun hf => by
      have hn := I.stkFree c hf
      rcases hc with rfl | hc
      · rw [hn] at e; cases e
      · rw [hn] at hc; cases hc) q) (fun _ q => q) fun _ _ q => q
  refine sorted_keys (fz := frs X.stack) (R := fun v i => ∃ t, v = Value.int i t) (keyD key) hl.isList I.bare each (AllAlike.of fun i j => alike_tuples _ _) (Sortable.tuples fun i => ?_) small fr (fun x _ => by have := dep x; omega) (fun v i hv hi u keep sl late => ?_) fun out c u keep sl late no at_ ord => ?_
  · have hk := hne i
    unfold keyD
    cases e : key i with
    | nil => exact absurd e hk
    | cons x r => exact ⟨_, _, rfl⟩
  · obtain ⟨t, rfl⟩ := hv
    obtain ⟨hh, g, d, tk, os'⟩ := u
    obtain rfl : os' = s.os := late.1
    have un : Un (frs X.stack) [] H H s.heap hh := ⟨fun b o e _ hf _ => keep b o hf e, fun b o e _ _ _ => sl b o e, fun b o _ n _ => n, fun b o e _ => (sl b o e).elim fun x h => ⟨_, h⟩, fun _ _ e => e, fun _ _ _ e => e, fun b ps e => ⟨#[], by rw [e]; simp⟩⟩
    have hok : HOk X.prog X.w H hh := still keep
    have Iu : Inv X pins σ H ⟨hh, g, d, tk, s.os⟩ := I.call (ch := []) un hok late.2 fun b z => absurd z (by simp)
    have e0 := Iu.env0
    have en : Env0 X.prog X.w X.K X.mg X.base X.A.in1.in1 X.stack ⟨hh, g, d, tk, s.os⟩ (fun _ => none) := ⟨e0.frames, e0.mod, fun b o e => ⟨(e0.bs b o e).1, rfl⟩, e0.bsz, e0.funs, fun _ _ => rfl, fun _ _ e => (nomatch e), e0.bare⟩
    have bd := hb ⟨hh, g, d, tk, s.os⟩ [.int i t] Iu.kIn (by rw [List.append_nil]; exact (F.len _ _ _ _ (hsp i hi)).symm ▸ rfl)
    rw [List.append_nil] at bd
    refine wpAny_call (codeAny_mono (F.run X.A.in1.in1 X.stack _ (fun _ => none) ⟨[.int i t], []⟩ [.int i t] [.int i] _ _ (hr (List.ne_nil_of_mem hi)) en bd (.cons ⟨t, rfl⟩ .nil) (hsp i hi)) fun r u2 hq => ?_)
    cases r with
    | error e =>
      obtain ⟨_, _, _, _, _, _, _, _, _, _, _, _, z⟩ := hq
      exact z.elim
    | ok fl =>
      cases fl with
      | ret v2 =>
        obtain ⟨v, H', os2, bare2, un2, hok2, r2, a2, rfl, sq⟩ := hq
        refine ⟨os2, bare2, fun b o hf e => un2.keep b o e rfl hf (by simp), fun b o e => ?_, ?_⟩
        · by_cases hf : b ∈ frs X.stack
          · exact un2.slot b o e rfl hf (by simp)
          · exact ⟨o.slots, un2.keep b o e rfl hf (by simp)⟩
        · cases r2
          have done : ∀ (ob : Obj) (its : List Value) (n : Nat), u2.heap.get? a2 = some ob → ob.cls = .type "tuple" → ob.data = .seq its.toArray n → Vals ((key i).map V.int) its → Reads u2.heap (.ref a2) (keyD key i) [] := fun ob its n e1 e2 e3 e4 =>
            reads_tuple_at e1 e2 e3 (reads_ints e4)
          rcases sq with sq | ⟨o, its, n, hk, hc, hd, hz2, rv2⟩
          · obtain ⟨_, its, rv2, ob, e1, e2, n, e3⟩ := sq.ok hok2
            exact done ob its n e1 e2 e3 rv2
          · have e1 := Iu.kIn a2 o hk
            by_cases hf : a2 ∈ frs X.stack
            · obtain ⟨sl2, e2⟩ := un2.slot a2 o e1 rfl hf (by simp)
              exact done _ its.toList n e2 hc hd rv2
            · exact done o its.toList n (un2.keep a2 o e1 rfl hf (by simp)) hc hd rv2
      | next => exact hq.elim
      | brk => exact hq.elim
      | cont => exact hq.elim
  · obtain ⟨hh, g, d, tk, os'⟩ := u
    obtain rfl : os' = s.os := late.1
    have hn : H (s.heap.objs.size + 1) = none := I.hok.fresh (Nat.le_succ _)
    have ys : Vals ((z.mergeSort (dataLe false (keyD key))).map V.int) out := by
      have go : ∀ {l : List Int} {us : List Value}, EachIs (fun v i => ∃ t, v = Value.int i t) us l → Vals (l.map V.int) us := fun {l} {us} h => by
        induction h with
        | nil => exact .nil
        | cons r _ ih => exact .cons r ih
      exact go ord
    have un : Un (frs X.stack) [] H (upd H (s.heap.objs.size + 1) (.lst ((z.mergeSort (dataLe false (keyD key))).map V.int))) s.heap hh := by
      have ne : ∀ b o, s.heap.get? b = some o → b ≠ s.heap.objs.size + 1 := fun b o e h => by
        rw [h, no] at e
        cases e
      refine ⟨fun b o e _ hf _ => keep b o hf e, fun b o e _ _ _ => sl b o e, fun b o e n _ => by rw [upd_ne (ne b o e)]; exact n, fun b o e _ => (sl b o e).elim fun x h => ⟨_, h⟩, fun b xs e => ?_, fun b o u e => ?_, fun b ps e => ⟨#[], ?_⟩⟩
      · rw [upd_ne (by rintro rfl; rw [hn] at e; cases e)]; exact e
      · rw [upd_ne (by rintro rfl; rw [hn] at e; cases e)]; exact e
      · rw [upd_ne (by rintro rfl; rw [hn] at e; cases e), e]; simp
    have hok : HOk X.prog X.w (upd H (s.heap.objs.size + 1) (.lst ((z.mergeSort (dataLe false (keyD key))).map V.int))) hh := fun b o e => by
      by_cases h : b = s.heap.objs.size + 1
      · subst h
        rw [upd_same] at e
        cases e
        refine ⟨by rw [List.length_map, List.length_mergeSort]; exact small, out, c, ys, at_⟩
      · rw [upd_ne h] at e
        exact (still keep b o e).stay (fun _ _ _ q => q) (fun y q => by rw [upd_ne (by rintro rfl; rw [hn] at q; cases q)]; exact q) fun y xs q => by
          rw [upd_ne (by rintro rfl; rw [hn] at q; cases q)]; exact q
    exact ⟨.ref _, _, I.call (ch := []) un hok late.2 fun b z => absurd z (by simp), rfl, q _ hn⟩
end
end Ev
set_option Elab.async false
set_option linter.all false
set_option maxRecDepth 100000
set_option maxHeartbeats 1000000
/-! EvC2k: list(range(n)), sorted(xs, key=f). -/
namespace Ev
open PySem PySem.Spec PyProof.Rows L2
section
variable {X : Cx} {C : Cs} {W : WX} {p : Prog} {n : Nat} {x y z : Expr} {pos : Pos}
theorem rvs_rng {K : PySem.W.Frag} {H : Hp} (n : Nat) (a b : Int) (h : (b - a).toNat = n) : RVs K H ((List.range n).map fun (k : Nat) => D.int (a + k)) (rgV a b) := by
  subst h
  unfold rgV
  induction List.range (b - a).toNat with
  | nil => exact .nil
  | cons i l ih => exact .cons (.int _) ih
theorem s_rgl {a : Ex} {q1 q2 p2 : Pos} (ok : Ok p n X) (hg : gloB X.env.scope (Str.ofString "list") = true) (hr : gloB X.env.scope (Str.ofString "range") = true) (ha : PE X x (lE X C W a)) (h1 : isStar x = false) :
    PE X (.Call (.Name (Str.ofString "list") q1) [.Call (.Name (Str.ofString "range") q2) [x] [] p2] [] pos) (lE X C W (.rgl a)) := by
  refine (PE.fr (pe_listRg ok.calm (gl_of hg) (ok.bi _ (by decide +kernel)) (prg_1 (gl_of hr) (ok.bi _ (by decide +kernel)) ha (star_cons h1)) rfl)).imp fun σ H Q ⟨ds, S, E, Kk, rl, rs, k, aft, xk⟩ => ?_
  refine ⟨ds, S, E, _, rl, rs, k, fun d S1 v H1 ⟨i, ei, b1, b2, k1⟩ e1 rs1 rv => ?_, xk⟩
  subst ei
  cases rv
  refine ⟨i, rfl, ⟨by omega, by omega, by omega, by omega, by omega⟩, fun q hq => (aft.go e1).newl rs1 k1 ?_ hq⟩
  have r := rvs_rng (K := X.K) (H := H1) i.toNat 0 i (by omega)
  simpa only [Int.zero_add] using r
theorem s_rgt {a : Ex} {q1 q2 p2 : Pos} (ok : Ok p n X) (hg : gloB X.env.scope (Str.ofString "tuple") = true) (hr : gloB X.env.scope (Str.ofString "range") = true) (ha : PE X x (lE X C W a)) (h1 : isStar x = false) :
    PE X (.Call (.Name (Str.ofString "tuple") q1) [.Call (.Name (Str.ofString "range") q2) [x] [] p2] [] pos) (lE X C W (.rgt a)) := by
  refine (pe_tupRgN ok.calm (gl_of hg) (ok.bi _ (by decide +kernel)) (prg_1 (gl_of hr) (ok.bi _ (by decide +kernel)) ha (star_cons h1)) rfl).imp fun σ H Q ⟨ds, S, E, Kk, rl, rs, k, aft, xk⟩ => ?_
  refine ⟨ds, S, E, _, rl, rs, k, fun d S1 v H1 ⟨i, ei, b1, b2, k1⟩ e1 rs1 rv => ?_, xk⟩
  subst ei
  cases rv
  refine ⟨i, rfl, ⟨by omega, by omega, by omega, by omega, by omega⟩, fun q o hq hd => (aft.go e1).tup rs1 k1 ?_ hq hd⟩
  have r := rvs_rng (K := X.K) (H := H1) i.toNat 0 i (by omega)
  simpa only [Int.zero_add] using r
theorem RVs.rev {K : PySem.W.Frag} {H : Hp} {l : List D} {vs : List V} (r : RVs K H l vs) : RVs K H l.reverse vs.reverse := by
  have go : ∀ {l : List D} {vs : List V} {m : List D} {ws : List V}, RVs K H l vs → RVs K H m ws → RVs K H (l.reverse ++ m) (vs.reverse ++ ws) := fun {l} => by
    induction l with
    | nil => intro vs m ws h h2; cases h; exact h2
    | cons d l ih =>
      intro vs m ws h h2
      cases h with
      | cons a b =>
        rw [List.reverse_cons, List.reverse_cons, List.append_assoc, List.append_assoc]
        exact ih b (.cons a h2)
  have := go r .nil
  rwa [List.append_nil, List.append_nil] at this
theorem seq_src {K : PySem.W.Frag} {S : Sto} {H : Hp} {d : D} {v : V} {l : List D} (rs : RepS K S H) (r : RV K H d v) (h : seq? S d = some l) : ∃ a vs, v = .ref a ∧ (SqL K H a vs ∨ SqT K H a vs) ∧ RVs K H l vs := by
  cases r with
  | @tup ds a xs hf rl => cases h; exact ⟨a, xs, rfl, .inr hf.sq, rl⟩
  | @fz ds a xs hf rl => cases h; exact ⟨a, xs, rfl, .inl hf.sq, rl⟩
  | ref n =>
    simp only [seq?] at h
    cases e : S n with
    | none => rw [e] at h; cases h
    | some o =>
      rw [e] at h
      cases o with
      | lst l' =>
        cases h
        obtain ⟨vs, e2, r⟩ := rs n _ e
        exact ⟨n, vs, rfl, .inl (.of e2), r⟩
      | dic l' => cases h
      | dit l' => cases h
      | ins c f => cases h
  | _ => cases h
theorem s_revl {a : Ex} {q1 q2 p2 : Pos} (ok : Ok p n X) (hg : gloB X.env.scope (Str.ofString "list") = true) (hr : gloB X.env.scope (Str.ofString "reversed") = true) (ha : PE X x (lE X C W a)) (h1 : isStar x = false) :
    PE X (.Call (.Name (Str.ofString "list") q1) [.Call (.Name (Str.ofString "reversed") q2) [x] [] p2] [] pos) (lE X C W (.revl a)) := by
  refine (PE.fr (pe_revl ok.calm (gl_of hg) (ok.bi _ (by decide +kernel)) (gl_of hr) (ok.bi _ (by decide +kernel)) ha (star_cons h1))).imp fun σ H Q ⟨ds, S, E, Kk, rl, rs, k, aft, xk⟩ => ?_
  refine ⟨ds, S, E, _, rl, rs, k, fun d S1 v H1 ⟨l, el, k1⟩ e1 rs1 rv => ?_, xk⟩
  obtain ⟨b, vs, rfl, alt, r⟩ := seq_src rs1 rv el
  exact ⟨b, vs, rfl, alt, fun q hq => (aft.go e1).newl rs1 k1 r.rev hq⟩
theorem s_slr {a : Ex} {j : Nat} {p1 p2 p3 : Pos} (ha : PE X x (lE X C W a)) : PE X (.Subscript x (.Slice none none (some (.UnaryOp .USub (.Constant (.int 1) j p1) p2)) p3) pos) (lE X C W (.slr a)) := by
  have fr : PE X (.Subscript x (.Slice none none (some (.UnaryOp .USub (.Constant (.int 1) j p1) p2)) p3) pos) fun σ H Q => tRevN X.K (lE X C W a) σ H (frQ Q) := PE.fr (pe_revN ha)
  refine fr.imp fun σ H Q ⟨ds, S, E, Kk, rl, rs, k, aft, xk⟩ => ?_
  refine ⟨ds, S, E, _, rl, rs, k, fun d S1 v H1 k1 e1 rs1 rv => ?_, xk⟩
  cases rv with
  | @tup l b vs hf r => exact ⟨b, vs, rfl, .inr ⟨hf.sq, fun q o hq hd => frQ_no ((aft.go e1).tup rs1 k1 r.rev hq hd)⟩⟩
  | @fz l b vs hf r => exact ⟨b, vs, rfl, .inl ⟨hf.sq, fun q hq => (aft.go e1).newl rs1 k1 r.rev hq⟩⟩
  | ref m =>
    rcases sto_cases (S := S1) (n := m) with e | ⟨l, e⟩ | ⟨l, e⟩ | ⟨c, f, e⟩ | ⟨l, e⟩
    · simp only [slrW, e] at k1
    · simp only [slrW, e] at k1
      obtain ⟨vs, hx, r⟩ := lst_of rs1 e
      exact ⟨m, vs, rfl, .inl ⟨.of hx, fun q hq => (aft.go e1).newl rs1 k1 r.rev hq⟩⟩
    · simp only [slrW, e] at k1
    · simp only [slrW, e] at k1
    · simp only [slrW, e] at k1
  | _ => exact False.elim k1
theorem room_in {m : Nat} {A : Around} (h : Room (m + 1) A) : Room m A.in1.in1 :=
  ⟨h.hd, by have := h.dp; show A.depth + 3 * m + 5 < recursionLimit; omega, by have := h.un; show A.units + 1 + 1 + 16 * m + 200 < cLine; omega⟩
def keyK (f : Int → Int × Int) (i : Int) : List Int := [(f i).1, (f i).2]
theorem key_le (kx ky : Int → Int) : PySem.W.dataLe false (keyD fun i => [kx i, ky i]) = fun a b => decide (kx a < kx b ∨ (kx a = kx b ∧ ky a ≤ ky b)) := PySem.W.dataLe_ii kx ky
theorem s_srtk {f : Str} {e : Ex} {q1 q2 kp : Pos} {d : Df} (ok : Ok p n X) (hg : gloB X.env.scope (Str.ofString "sorted") = true) (hf : gloB X.env.scope f = true) (hp : plainN f = true) (hd : p f = some d) (ha : PE X x (lE X (callC p n) W e)) (h1 : isStar x = false) :
    PE X (.Call (.Name (Str.ofString "sorted") q1) [x] [⟨some (Str.ofString "key"), .Name f q2, kp⟩] pos) (lE X (callC p n) W (.srtk f e)) := by
  have base : ∃ m a fd ps, (n = 0 ∧ m = 0 ∨ n = m + 1) ∧ X.mg f = some (.ref a) ∧ PySem.W.keepIn X.K (.ref a) = true ∧ Binds X.K fd ps [] ∧ ps.length = d.np ∧ FnOk X.prog X.w X.K X.mg X.base (L2.CX X.prog X.w) (m + 2) a fd ps (spOf X.K X.mg p m f d.np) := by
    cases n with
    | zero =>
      obtain ⟨a, fd, ps, r⟩ := ok.fn f d hd
      exact ⟨0, a, fd, ps, .inl ⟨rfl, rfl⟩, r⟩
    | succ m =>
      obtain ⟨a, fd, ps, r⟩ := ok.fnk m rfl f d hd
      exact ⟨m, a, fd, ps, .inr rfl, r⟩
  obtain ⟨m, a, fd, ps, hn, hm, hk, hb, hl, F⟩ := base
  let r : List V → List V → Hp → VK → Prop := fun vs zs H Q => ∃ q l z S Kk, ∃ kx ky : Int → Int, vs = [.ref q] ∧ zs = [.ref a] ∧ RepS X.K S H ∧ (∃ xs, SqL X.K H q xs ∧ RVs X.K H l xs) ∧ ints? l = some z ∧
    (∀ i ∈ z, (callC p n).k f [.int i] (fun _ => none) (fun d _ => d = .tup [.int (kx i), .int (ky i)]) noX) ∧ newl ((z.mergeSort fun a b => decide (kx a < kx b ∨ (kx a = kx b ∧ ky a ≤ ky b))).map .int) S Kk ∧ Aft X.K S H Kk Q
  have hc : CallRK X (.builtin "sorted") [Str.ofString "key"] r := by
    intro pins s σ H vs zs us ws Q I rv rz ⟨q, l, z, S, Kk, kx, ky, ev, ez, rs, ⟨xs, hx, rl⟩, hz, hcall, hK, aft⟩
    subst ev ez
    obtain ⟨u, rfl, ru⟩ := rv.one
    obtain ⟨w, rfl, rw'⟩ := rz.one
    cases ru
    cases rw'
    have ex := rl.ints hz
    subst ex
    refine thn (sort_def (Q := frQ Q) (key := fun i => [kx i, ky i]) I hx F hb (fun hne => ?_) ok.hu (fun i => List.cons_ne_nil _ _) (fun i hi => ?_) fun t ht => ?_) fun v s1 q => ep_fr q
    · rcases hn with ⟨rfl, _⟩ | rfl
      · obtain ⟨i, hi⟩ := List.exists_mem_of_ne_nil z hne
        exact (hcall i hi).elim
      · exact room_in ok.room
    · have hcall' : callW p m f [.int i] (fun _ => none) (fun d _ => d = .tup [.int (kx i), .int (ky i)]) noX := by
        rcases hn with ⟨rfl, rfl⟩ | rfl
        · exact (hcall i hi).elim
        · exact hcall i hi
      refine ⟨call_len hcall' hd, [.int i], fun _ => none, _, _, .cons (.int i) .nil, fun _ _ e => (nomatch e), hcall', fun d S' v H' hd' e rs' rv' => ?_, fun _ _ _ _ _ z => z.elim⟩
      subst hd'
      cases rv' with
      | @tup _ t ys hs ry =>
        refine ⟨t, rfl, ?_⟩
        cases ry with
        | cons r1 ry =>
          cases ry with
          | cons r2 ry =>
            cases ry
            cases r1
            cases r2
            exact hs.sq
    · rw [key_le kx ky]
      refine aft.newl rs hK ?_ ht
      have rm : ∀ l : List Int, RVs X.K H (l.map D.int) (l.map V.int) := fun l => by
        induction l with
        | nil => exact .nil
        | cons i l ih => exact .cons (.int i) ih
      exact rm _
  refine (pe_callBK (tk := tCons (tC (.ref a)) tNil) hc (gl_of hg) (ok.bi _ (by decide +kernel)) (by decide +kernel) (pa_cons ha pa_nil (star_cons h1)) (pk_cons (pe_glob (gl_of hf) hm rfl (not_debug hp)) pk_nil) (by decide +kernel) (by decide +kernel) ?_ ?_ rfl rfl rfl).imp fun σ H Q ⟨ds, S, E, Kk, rl, rs, k, aft, xk⟩ => ?_
  · rw [star_cons h1]; rfl
  · rw [star_cons h1]; rfl
  · refine ⟨ds, S, E, _, rl, rs, k, fun dd S1 v H1 ⟨l, z, kx, ky, e2, e3, e4, e5⟩ ex rs1 rv => ?_, xk⟩
    obtain ⟨q, xs, rfl, hx, rl⟩ := lst_src rs1 rv e2
    exact ⟨q, l, z, S1, Kk, kx, ky, rfl, rfl, rs1, ⟨xs, hx, rl⟩, e3, e4, e5, aft.go ex⟩
theorem s_srtr {e : Ex} {q1 q2 kp : Pos} {j} (ok : Ok p n X) (hg : gloB X.env.scope (Str.ofString "sorted") = true) (ha : PE X x (lE X (callC p n) W e)) (h1 : isStar x = false) :
    PE X (.Call (.Name (Str.ofString "sorted") q1) [x] [⟨some (Str.ofString "reverse"), .Constant (.bool true) j q2, kp⟩] pos) (lE X (callC p n) W (.srtr e)) := by
  have hc : CallRK X (.builtin "sorted") [Str.ofString "reverse"] (fun vs zs H Q => rSortedKw X.K true [.bl true] vs zs H (frQ Q)) := fun pins s σ H vs zs us ws Q I rv rz h => thn (cr_sortedRev (b := true) pins s σ H vs zs us ws _ I rv rz h) fun v s1 q => ep_fr q
  refine (pe_callBK (tk := tCons (tC (.bl true)) tNil) hc (gl_of hg) (ok.bi _ (by decide +kernel)) (by decide +kernel) (pa_cons ha pa_nil (star_cons h1)) (pk_cons pe_bl pk_nil) (by decide +kernel) (by decide +kernel) ?_ ?_ rfl rfl rfl).imp fun σ H Q ⟨ds, S, E, Kk, rl, rs, k, aft, xk⟩ => ?_
  · rw [star_cons h1]; rfl
  · rw [star_cons h1]; rfl
  · refine ⟨ds, S, E, _, rl, rs, k, fun dd S1 v H1 ⟨l, e2, z, e3, e5⟩ ex rs1 rv => ?_, xk⟩
    obtain ⟨q, xs, rfl, hx, rl⟩ := lst_src rs1 rv e2
    have exs := rl.ints e3
    subst exs
    refine ⟨q, z, rfl, rfl, hx, fun z' p hp ho hn => ?_⟩
    refine (aft.go ex).newl rs1 (e5 z' hp ?_) ?_ hn
    · exact (show z'.Pairwise (· ≥ ·) from ho)
    · have rm : ∀ l : List Int, RVs X.K H1 (l.map D.int) (l.map V.int) := fun l => by
        induction l with
        | nil => exact .nil
        | cons i l ih => exact .cons (.int i) ih
      exact rm _
end
end Ev
set_option Elab.async false
set_option linter.all false
set_option maxRecDepth 100000
set_option maxHeartbeats 1000000
/-! EvE: enumerate of a tuple. -/
namespace Ev
open PySem PySem.Spec PyProof.Rows L2

theorem meets_enumerate_newT {v : Value} {o : Obj} {H : Heap → Prop} (B : Begins v o H) :
    Meets (Builtin.«enumerate.__new__» ⟨[.type "enumerate", v], []⟩) (fun _ R s => H s.heap ∧
      R (.ok (.ret (.ref (s.heap.push o).objs.size))) { s with heap := (s.heap.push o).push { cls := .type "enumerate", data := .fields #[.none, .bool false, .ref s.heap.objs.size, rawInt 0, .none, .none] } }) :=
  .of_wp fun prog w A R s h => by
    obtain ⟨hp, g, d, tk, os⟩ := s; obtain ⟨h1, h⟩ := h
    have hsub := sub_enumerate
    have q1 : ∀ {A' : Around} {E : Value → Shared → Prop} {Q : Value → Shared → Prop}, Q (.ref hp.objs.size) ⟨hp.push o, g, d, tk, os⟩ → wpAny (model prog w) A' (pyIter v) Q E ⟨hp, g, d, tk, os⟩ :=
      fun q => B.iter prog w _ _ ⟨hp, g, d, tk, os⟩ _ h1 q
    wp_walk using q1
    refine wpAny_stack_any fun st => wpAny_pure ?_
    split
    · rename_i c _ _ _ _ _
      cases (c == Value.type "enumerate")
      · wp_walk using q1
        exact ⟨_, rfl, h⟩
      · wp_walk using q1
        exact ⟨_, rfl, h⟩
    · wp_walk using q1
      exact ⟨_, rfl, h⟩
theorem call_enumB {prog : Program} {w : World} {A : Around} {E : Value → Shared → Prop} {s : Shared} {v : Value} {o : Obj} {H : Heap → Prop} {Q : Value → Shared → Prop} (B : Begins v o H) (h1 : H s.heap)
    (h : ∀ h', IsEnum h' (s.heap.objs.size + 1) s.heap.objs.size 0 .none → h'.get? s.heap.objs.size = some o → h'.objs.size = s.heap.objs.size + 2 →
      (∀ b o, s.heap.get? b = some o → h'.get? b = some o) → Q (.ref (s.heap.objs.size + 1)) { s with heap := h' }) :
    wpAny (model prog w) A (call (.type "enumerate") [v]) Q E s := by
  refine callType_new F.called_enumerate (by decide) (F.typeCall_enumerate_1 _) (F.newCall_enumerate_1 _) (fun obj => F.args_object_init_2 obj _) F.entry_enumerate_new
    (meets_enumerate_newT B) ⟨h1, ?_⟩
  have hz : (s.heap.push o).objs.size = s.heap.objs.size + 1 := Heap.size_push ..
  show _ ∧ _
  rw [hz]
  have he : IsEnum ((s.heap.push o).push { cls := .type "enumerate", data := .fields #[.none, .bool false, .ref s.heap.objs.size, rawInt 0, .none, .none] }) (s.heap.objs.size + 1) s.heap.objs.size 0 .none := by
    have := Heap.get?_push_size (s.heap.push o) (o := { cls := .type "enumerate", data := .fields #[.none, .bool false, .ref s.heap.objs.size, rawInt 0, .none, .none] }) rfl
    rw [hz] at this; exact this
  refine ⟨⟨_, he, rfl⟩, h _ he (Heap.get?_push_of_some _ (Heap.get?_push_size _ B.free)) (by rw [Heap.size_push, hz]) fun b o x => Heap.get?_push_of_some _ (Heap.get?_push_of_some _ x)⟩
/-- the tuple at a, each item in a new pair -/
def IteT (K : PySem.W.Frag) (a : Addr) : L2.It :=
  ⟨fun i H => ∃ (xs : List V) (x : V), SqT K H a xs ∧ xs[i]? = some x, fun i H v H' => ∃ T x, v = .ref T ∧ H T = none ∧ H' = L2.upd H T (.tup [.int (i : Nat), x]) ∧ ∀ xs, SqT K H a xs → xs[i]? = some x, fun i H => ∃ xs : List V, SqT K H a xs ∧ xs.length ≤ i⟩
theorem turn_enumT {P : Program} {w : World} {K : PySem.W.Frag} {elts : List Expr} {kk : Nat} {tpos : Pos} (a e it : Addr) :
    Turn P w K (.Tuple elts kk tpos) (IteT K a) [e, it] e (fun i h => (∃ old, IsEnum h e it ((i : Nat) : Int) old) ∧ h.IsTupleIter it a i ∧ e ≠ it) where
  mem := by simp
  obj := fun i h st b hb => by
    obtain ⟨⟨old, he⟩, ⟨o, ho, hc, hd⟩, _⟩ := st
    have e' : b = e ∨ b = it := by simpa using hb
    rcases e' with z | z
    · rw [z]; exact ⟨_, he, fun v q => nomatch q⟩
    · rw [z]; exact ⟨o, ho, fun v q => by rw [hd] at q; cases q⟩
  keep := fun i h h' st k => let ⟨⟨old, he⟩, hi, hne⟩ := st; ⟨⟨old, k e (by simp) _ he⟩, hi.at fun o q => k it (by simp) o q, hne⟩
  item := by
    intro X hP hw hK hc i pins s σ H E I hf st hg
    subst hP hw hK
    obtain ⟨⟨old, he⟩, hit, hne⟩ := st
    obtain ⟨xs, x, hq, hx⟩ := hg
    obtain ⟨its, rv, p, hz⟩ := I.tuple hq
    have hTup : s.heap.IsTuple a its.toArray := p
    obtain ⟨u, hu, ru⟩ := rv.get hx
    have hel : e < s.heap.objs.size := Heap.lt_size he
    have hil : it < s.heap.objs.size := by obtain ⟨_, q, _⟩ := hit; exact Heap.lt_size q
    have hait : a ≠ it := by
      rintro rfl
      obtain ⟨o1, e1, c1, _⟩ := hTup
      obtain ⟨o2, e2, c2, _⟩ := hit
      rw [e1] at e2; cases e2
      rw [c1] at c2
      exact absurd (Value.type.inj c2) (by decide)
    have hea : e ≠ a := by
      rintro rfl
      obtain ⟨o1, e1, c1, _⟩ := hTup
      rw [he] at e1; cases e1
      exact absurd (Value.type.inj c1) (by decide)
    have hlt : i < its.toArray.size := by
      have := (List.getElem?_eq_some_iff.1 hu).1
      simpa using this
    refine wpAny_pyNext_enum_itemD (Draws.tuple (A := X.A.in1) (show X.A.in1.handled = none from I.ok.hd hc) it a hait its.toArray) he ⟨hit, hTup⟩ hlt hne (by simp [hne, hea]) fun x' h' tk hx' ho hit' hT hsz hk => ?_
    have hxu : x' = u := by
      have hx'' : its.toArray[i]? = some x' := hx'
      have : its.toArray[i]? = some u := by simpa using hu
      rw [this] at hx''
      cases hx''; rfl
    subst hxu
    refine ⟨_, rfl, wpAny_letOwnedTupleGo_enum (s := { s with heap := h', toks := tk + 1 }) ho fun h'' he' sb => ?_⟩
    have hT2 : h''.get? s.heap.objs.size = some { cls := .type "tuple", data := .seq #[.int i tk, x'] } := (sb.2 _ (Nat.ne_of_gt hel)).trans hT
    have new : ObjOk X.prog X.w (L2.upd H s.heap.objs.size (.tup [.int (i : Nat), x])) h'' s.heap.objs.size (.tup [.int (i : Nat), x]) :=
      ⟨by show 2 ≤ sizeLine; decide, [.int i tk, x'], .cons ⟨_, rfl⟩ (.cons ru .nil), ⟨_, hT2, rfl, _, rfl⟩⟩
    have I1 : Inv X pins σ (L2.upd H s.heap.objs.size (.tup [.int (i : Nat), x])) { s with heap := h'', toks := tk + 1 } :=
      I.turnedNew (ch := [e, it]) (fun b ob hb q => (sb.2 b (fun z => hb (by simp [z]))).trans (hk b ob (fun z => hb (by simp [z])) (fun z => hb (by simp [z])) q)) hf (Nat.le_refl _) new
    refine ⟨.ref s.heap.objs.size, _, I1, rfl, ⟨_, x, rfl, I.hok.fresh (Nat.le_refl _), rfl, fun ys hy => by rw [I.tuple_inj hy hq]; exact hx⟩, ⟨⟨x', ?_⟩, hit'.1.at fun o q => (sb.2 it (Ne.symm hne)).trans q, hne⟩, fun b hb => ?_⟩
    · have e1 : ((i + 1 : Nat) : Int) = (i : Int) + 1 := by omega
      rw [e1]; exact he'
    · have hb' : b < s.heap.objs.size := by
        have e' : b = e ∨ b = it := by simpa using hb
        rcases e' with z | z
        · rw [z]; exact hel
        · rw [z]; exact hil
      rw [upd_ne (Nat.ne_of_lt hb')]
      exact (hf b hb).1
  done := by
    intro X hP hw hK hc i pins s σ H E I hf st hg
    subst hP hw hK
    obtain ⟨⟨old, he⟩, hit, hne⟩ := st
    obtain ⟨xs, hq, hx⟩ := hg
    obtain ⟨its, rv, p, hz⟩ := I.tuple hq
    have hTup : s.heap.IsTuple a its.toArray := p
    obtain ⟨f0, f1, f2, f3, f4, f5⟩ := hf it (by simp)
    have hl := rv.length
    obtain ⟨o1, e1, c1, n1, d1⟩ := hTup
    unfold pyNext
    have hT : s.TypeIs (.ref e) "enumerate" := ⟨_, he, rfl⟩
    refine wpAny_bind (wpAny_attempt (wpAny_callSpecial?_slot (name := Str.ofString "__next__") hT F.slot_enumerate_next
      (wpAny_call_entry F.slot_enumerate_next hT F.entry_enumerate_next ?_ (F.args_enumerate_next_1 _))))
    show wpAny _ _ (field (.ref e) 2 >>= _) _ _ _
    refine wpAny_bind (wpAny_field he rfl (x := .ref it) rfl ?_)
    refine wpAny_bind (wpAny_nextOf_tuple_end (I.ok.hd hc) hit ⟨o1, e1, c1, n1, d1⟩ (by simp; omega) fun h' x he' hx' => ?_)
    obtain ⟨o, ho, hc'⟩ := hx'
    refine wpAny_bind (wpAny_isInstance (T := "StopIteration") (b := true) ⟨o, ho, hc'⟩ isSubtype_stop ?_)
    exact wpAny_pure ⟨rfl, I.turned (t' := s.toks) (fun b o hb q => he' b o hb q) f0 f1 f3 f4 f5⟩
  self := fun A i s Q E st h => let ⟨⟨_, he⟩, _⟩ := st; wpAny_pyIter_enum he h
def iEnumA (K : PySem.W.Frag) (ta : TA) : TI := fun σ H R => ta σ H fun vs H1 => ∃ a xs, vs = [.ref a] ∧ ((SqL K H1 a xs ∧ R (Ite K a) H1) ∨ (SqT K H1 a xs ∧ R (IteT K a) H1))
theorem pi_enumA {X : Cx} {e : Expr} {ta : TA} {p pos tpos : Pos} {elts : List Expr} {kk : Nat} (hg : Gl X "enumerate") (hm : X.mg "enumerate" = none) (ha : PA X [e] ta) (hs : starEach [e] X.env = [(false, eval e X.env)] := by rfl) :
    PI X (.Tuple elts kk tpos) (.Call (.Name "enumerate" p) [e] [] pos) (iEnumA X.K ta) := by
  refine ⟨fun pins s σ H R I h => ?_⟩
  refine Call_ (ld_blt I hg hm boot_enumerate (PyProof.Rows.callWith_type1 (thn (ha.run pos pins s σ H _ I h) fun us s1 ⟨vs, H1, I1, r1, q1⟩ => ?_) hs rfl))
  obtain ⟨a, xs, ex, hq⟩ := q1
  subst ex
  cases r1 with
  | cons r rr =>
    cases rr
    cases r
    have fp : ∀ b ∈ [s1.heap.objs.size + 1, s1.heap.objs.size], FpOk X pins H1 b := fun b hb => by
      have e' : b = s1.heap.objs.size + 1 ∨ b = s1.heap.objs.size := by simpa using hb
      have hle : s1.heap.objs.size ≤ b := by
        rcases e' with z | z
        · rw [z]; exact Nat.le_add_right _ _
        · rw [z]; exact Nat.le_refl _
      exact I1.fpOk hle (I1.hok.fresh hle)
    rcases hq with ⟨hq, q⟩ | ⟨hq, q⟩
    · obtain ⟨its, rv, p', hz⟩ := I1.list hq
      refine call_enumerate_list p'.isList fun h' he hit hsz hk => wpAny_pyIter_enum he ?_
      have I2 : Inv X pins σ H1 { s1 with heap := h' } := I1.kept (t' := s1.toks) hk
      exact ⟨s1.heap.objs.size + 1, [s1.heap.objs.size + 1, s1.heap.objs.size], _, _, H1, rfl, I2, turn_enum a (s1.heap.objs.size + 1) s1.heap.objs.size, ⟨⟨.none, he⟩, hit, Nat.succ_ne_self _⟩, fp, q⟩
    · obtain ⟨its, rv, p', hz⟩ := I1.tuple hq
      refine call_enumB (begins_tuple a its.toArray) p' fun h' he hit hsz hk => wpAny_pyIter_enum he ?_
      have I2 : Inv X pins σ H1 { s1 with heap := h' } := I1.kept (t' := s1.toks) hk
      exact ⟨s1.heap.objs.size + 1, [s1.heap.objs.size + 1, s1.heap.objs.size], _, _, H1, rfl, I2, turn_enumT a (s1.heap.objs.size + 1) s1.heap.objs.size, ⟨⟨.none, he⟩, ⟨_, hit, rfl, rfl⟩, Nat.succ_ne_self _⟩, fp, q⟩
end Ev
set_option Elab.async false
set_option linter.all false
set_option maxRecDepth 100000
set_option maxHeartbeats 1000000
/-! EvC3: iterators, targets, comprehensions. -/
namespace Ev
open PySem PySem.Spec PyProof.Rows L2

/-! ### sources -/
/-- a list (T: a tuple) whose items are l while chk holds -/
def LSrc (K : PySem.W.Frag) (S0 : Sto) (H0 : Hp) (l : List D) (chk : Sto → Prop) (a : Addr) : Prop := ∀ S H, RepS K S H → chk S → Ext S0 H0 S H → ∃ xs, SqL K H a xs ∧ RVs K H l xs
def TSrc (K : PySem.W.Frag) (S0 : Sto) (H0 : Hp) (l : List D) (chk : Sto → Prop) (a : Addr) : Prop := ∀ S H, RepS K S H → chk S → Ext S0 H0 S H → ∃ xs, SqT K H a xs ∧ RVs K H l xs
theorem itl_src {K : PySem.W.Frag} {S : Sto} {H : Hp} {d : D} {v : V} {Kc : List D → (Sto → Prop) → Prop} (rs : RepS K S H) (r : RV K H d v) (h : itlW d S Kc) : ∃ a l chk, v = .ref a ∧ Kc l chk ∧ chk S ∧ LSrc K S H l chk a := by
  cases r with
  | @fz l a xs hf rl => exact ⟨a, l, _, rfl, h, trivial, fun S' H' rs' _ e => ⟨xs, ((e.stay rs).fzL hf).sq, rl.mono (e.stay rs)⟩⟩
  | ref n =>
    rcases sto_cases (S := S) (n := n) with e | ⟨l, e⟩ | ⟨l, e⟩ | ⟨c, f, e⟩ | ⟨l, e⟩
    · simp only [itlW, e] at h
    · simp only [itlW, e] at h
      refine ⟨n, l, _, rfl, h, e, fun S' H' rs' hc _ => ?_⟩
      obtain ⟨xs, hx, rl⟩ := lst_of rs' hc
      exact ⟨xs, .of hx, rl⟩
    · simp only [itlW, e] at h
    · simp only [itlW, e] at h
    · simp only [itlW, e] at h
  | _ => exact h.elim
theorem itv_src {K : PySem.W.Frag} {S : Sto} {H : Hp} {d : D} {v : V} {Kc : List D → (Sto → Prop) → Prop} (rs : RepS K S H) (r : RV K H d v) (h : itvW d S Kc) :
    ∃ a l chk, v = .ref a ∧ Kc l chk ∧ chk S ∧ (LSrc K S H l chk a ∨ TSrc K S H l chk a) := by
  cases r with
  | @tup l a xs hf rl => exact ⟨a, l, _, rfl, h, trivial, .inr fun S' H' rs' _ e => ⟨xs, ((e.stay rs).tpS hf).sq, rl.mono (e.stay rs)⟩⟩
  | @fz l a xs hf rl =>
    obtain ⟨a', l', chk, e, k, hc, s⟩ := itl_src (Kc := Kc) rs (.fz hf rl) h
    exact ⟨a', l', chk, e, k, hc, .inl s⟩
  | ref n =>
    obtain ⟨a', l', chk, e, k, hc, s⟩ := itl_src (Kc := Kc) rs (.ref n) (by
      rcases sto_cases (S := S) (n := n) with e | ⟨l, e⟩ | ⟨l, e⟩ | ⟨c, f, e⟩ | ⟨l, e⟩ <;> simpa only [itvW, itlW, e] using h)
    exact ⟨a', l', chk, e, k, hc, .inl s⟩
  | _ => exact h.elim
section
variable {K : PySem.W.Frag} {S0 : Sto} {H0 : Hp} {l : List D} {chk : Sto → Prop} {a : Addr}
theorem ItOk.list (s : LSrc K S0 H0 l chk a) : ItOk K l chk S0 H0 (Itl K a) := by
  refine ⟨fun S H rs hc e => ?_, fun i S H hi rs hc e => ?_, fun i S H x H' hi rs hc e y => ?_⟩
  · obtain ⟨xs, hq, rl⟩ := s S H rs hc e
    exact ⟨xs, hq, by rw [rl.len]; exact Nat.le_refl _⟩
  · obtain ⟨xs, hq, rl⟩ := s S H rs hc e
    obtain ⟨w, e2, _⟩ := rl.get (List.getElem?_eq_getElem hi)
    exact ⟨xs, w, hq, e2⟩
  · obtain ⟨xs, hq, rl⟩ := s S H rs hc e
    obtain ⟨e1, e2⟩ := y
    subst e1
    obtain ⟨w, e3, r⟩ := rl.get (List.getElem?_eq_getElem hi)
    have e4 := e2 xs hq
    rw [e3] at e4
    cases e4
    exact ⟨_, List.getElem?_eq_getElem hi, r, Ext.refl, rs⟩
theorem ItOk.tuple (s : TSrc K S0 H0 l chk a) : ItOk K l chk S0 H0 (Itt K a) := by
  refine ⟨fun S H rs hc e => ?_, fun i S H hi rs hc e => ?_, fun i S H x H' hi rs hc e y => ?_⟩
  · obtain ⟨xs, hq, rl⟩ := s S H rs hc e
    exact ⟨xs, hq, by rw [rl.len]; exact Nat.le_refl _⟩
  · obtain ⟨xs, hq, rl⟩ := s S H rs hc e
    obtain ⟨w, e2, _⟩ := rl.get (List.getElem?_eq_getElem hi)
    exact ⟨xs, w, hq, e2⟩
  · obtain ⟨xs, hq, rl⟩ := s S H rs hc e
    obtain ⟨e1, e2⟩ := y
    subst e1
    obtain ⟨w, e3, r⟩ := rl.get (List.getElem?_eq_getElem hi)
    have e4 := e2 xs hq
    rw [e3] at e4
    cases e4
    exact ⟨_, List.getElem?_eq_getElem hi, r, Ext.refl, rs⟩
theorem rev_get {l : List D} {i : Nat} (hi : i < l.length) : l.reverse[i]? = l[l.length - 1 - i]? := List.getElem?_reverse hi
theorem ItOk.rev (s : LSrc K S0 H0 l chk a) : ItOk K l.reverse chk S0 H0 (Itv K a l.length) := by
  refine ⟨fun S H rs hc e => ?_, fun i S H hi rs hc e => ?_, fun i S H x H' hi rs hc e y => ?_⟩
  · rw [List.length_reverse]; exact Nat.le_refl _
  · obtain ⟨xs, hq, rl⟩ := s S H rs hc e
    rw [List.length_reverse] at hi
    obtain ⟨w, e2, _⟩ := rl.get (List.getElem?_eq_getElem (show l.length - 1 - i < l.length by omega))
    exact ⟨hi, xs, w, hq, e2⟩
  · obtain ⟨xs, hq, rl⟩ := s S H rs hc e
    rw [List.length_reverse] at hi
    obtain ⟨e1, e2⟩ := y
    subst e1
    obtain ⟨w, e3, r⟩ := rl.get (List.getElem?_eq_getElem (show l.length - 1 - i < l.length by omega))
    have e4 := e2 xs hq
    rw [e3] at e4
    cases e4
    exact ⟨_, by rw [rev_get hi]; exact List.getElem?_eq_getElem (show l.length - 1 - i < l.length by omega), r, Ext.refl, rs⟩
theorem ItOk.revT (s : TSrc K S0 H0 l chk a) : ItOk K l.reverse chk S0 H0 (RT.ItvT K a l.length) := by
  refine ⟨fun S H rs hc e => ?_, fun i S H hi rs hc e => ?_, fun i S H x H' hi rs hc e y => ?_⟩
  · rw [List.length_reverse]; exact Nat.le_refl _
  · obtain ⟨xs, hq, rl⟩ := s S H rs hc e
    rw [List.length_reverse] at hi
    obtain ⟨w, e2, _⟩ := rl.get (List.getElem?_eq_getElem (show l.length - 1 - i < l.length by omega))
    exact ⟨hi, xs, w, hq, e2⟩
  · obtain ⟨xs, hq, rl⟩ := s S H rs hc e
    rw [List.length_reverse] at hi
    obtain ⟨e1, e2⟩ := y
    subst e1
    obtain ⟨w, e3, r⟩ := rl.get (List.getElem?_eq_getElem (show l.length - 1 - i < l.length by omega))
    have e4 := e2 xs hq
    rw [e3] at e4
    cases e4
    exact ⟨_, by rw [rev_get hi]; exact List.getElem?_eq_getElem (show l.length - 1 - i < l.length by omega), r, Ext.refl, rs⟩
theorem ItOk.rng {f : Nat → Int} {n : Nat} {J : L2.It} (hgo : ∀ i H, i < n → J.go i H) (hst : ∀ H, J.stop n H) (hy : ∀ i H x H', J.yld i H x H' → H' = H ∧ x = .int (f i)) : ItOk K ((List.range n).map fun i => .int (f i)) (fun _ => True) S0 H0 J := by
  refine ⟨fun S H rs hc e => ?_, fun i S H hi rs hc e => ?_, fun i S H x H' hi rs hc e y => ?_⟩
  · rw [List.length_map, List.length_range]; exact hst H
  · rw [List.length_map, List.length_range] at hi; exact hgo i H hi
  · rw [List.length_map, List.length_range] at hi
    obtain ⟨e1, e2⟩ := hy i H x H' y
    subst e1 e2
    exact ⟨.int (f i), by rw [List.getElem?_map, List.getElem?_range hi]; rfl, .int _, Ext.refl, rs⟩
/-- a pair just made -/
theorem pair_new {S : Sto} {H : Hp} (rs : RepS K S H) {T : Addr} (hT : H T = none) {d e : D} {x y : V} (r1 : RV K H d x) (r2 : RV K H e y) :
    RV K (upd H T (.tup [x, y])) (.tpu [d, e]) (.ref T) ∧ Ext S H S (upd H T (.tup [x, y])) ∧ RepS K S (upd H T (.tup [x, y])) :=
  ⟨.tpu (.inl (.inl upd_same)) (.cons (r1.mono (stay_new hT)) (.cons (r2.mono (stay_new hT)) .nil)), Ext.free rs hT, rs.free hT⟩
theorem ItOk.enum (s : LSrc K S0 H0 l chk a) : ItOk K (l.zipIdx.map fun p => .tpu [.int p.2, p.1]) chk S0 H0 (Ite K a) := by
  have hlen : (l.zipIdx.map fun p => D.tpu [.int p.2, p.1]).length = l.length := by simp
  refine ⟨fun S H rs hc e => ?_, fun i S H hi rs hc e => ?_, fun i S H x H' hi rs hc e y => ?_⟩
  · obtain ⟨xs, hq, rl⟩ := s S H rs hc e
    exact ⟨xs, hq, by rw [hlen, rl.len]; exact Nat.le_refl _⟩
  · rw [hlen] at hi
    obtain ⟨xs, hq, rl⟩ := s S H rs hc e
    obtain ⟨w, e2, _⟩ := rl.get (List.getElem?_eq_getElem hi)
    exact ⟨xs, w, hq, e2⟩
  · rw [hlen] at hi
    obtain ⟨xs, hq, rl⟩ := s S H rs hc e
    obtain ⟨T, w, e1, hT, e2, e3⟩ := y
    subst e1 e2
    obtain ⟨w', e4, r⟩ := rl.get (List.getElem?_eq_getElem hi)
    have e5 := e3 xs hq
    rw [e4] at e5
    cases e5
    obtain ⟨h1, h2, h3⟩ := pair_new rs hT (.int (i : Int)) r
    exact ⟨_, by rw [List.getElem?_map, List.getElem?_zipIdx, List.getElem?_eq_getElem hi]; simp, h1, h2, h3⟩
theorem ItOk.enumT (s : TSrc K S0 H0 l chk a) : ItOk K (l.zipIdx.map fun p => .tpu [.int p.2, p.1]) chk S0 H0 (IteT K a) := by
  have hlen : (l.zipIdx.map fun p => D.tpu [.int p.2, p.1]).length = l.length := by simp
  refine ⟨fun S H rs hc e => ?_, fun i S H hi rs hc e => ?_, fun i S H x H' hi rs hc e y => ?_⟩
  · obtain ⟨xs, hq, rl⟩ := s S H rs hc e
    exact ⟨xs, hq, by rw [hlen, rl.len]; exact Nat.le_refl _⟩
  · rw [hlen] at hi
    obtain ⟨xs, hq, rl⟩ := s S H rs hc e
    obtain ⟨w, e2, _⟩ := rl.get (List.getElem?_eq_getElem hi)
    exact ⟨xs, w, hq, e2⟩
  · rw [hlen] at hi
    obtain ⟨xs, hq, rl⟩ := s S H rs hc e
    obtain ⟨T, w, e1, hT, e2, e3⟩ := y
    subst e1 e2
    obtain ⟨w', e4, r⟩ := rl.get (List.getElem?_eq_getElem hi)
    have e5 := e3 xs hq
    rw [e4] at e5
    cases e5
    obtain ⟨h1, h2, h3⟩ := pair_new rs hT (.int (i : Int)) r
    exact ⟨_, by rw [List.getElem?_map, List.getElem?_zipIdx, List.getElem?_eq_getElem hi]; simp, h1, h2, h3⟩
theorem zip2_len (l r : List D) : (zip2 l r).length = min l.length r.length := by unfold zip2; simp
theorem zip2_get {l r : List D} {i : Nat} (h1 : i < l.length) (h2 : i < r.length) : (zip2 l r)[i]? = some (.tpu [l[i], r[i]]) := by
  unfold zip2
  rw [List.getElem?_map, List.getElem?_eq_getElem (by rw [List.length_zip]; omega)]
  simp
theorem ItOk.zip {r : List D} {c2 : Sto → Prop} {b : Addr} (s : LSrc K S0 H0 l chk a) (t : LSrc K S0 H0 r c2 b) : ItOk K (zip2 l r) (fun S' => chk S' ∧ c2 S') S0 H0 (Itz K a b) := by
  refine ⟨fun S H rs hc e => ?_, fun i S H hi rs hc e => ?_, fun i S H x H' hi rs hc e y => ?_⟩
  · obtain ⟨xs, hq, rl⟩ := s S H rs hc.1 e
    obtain ⟨ys, hq2, rl2⟩ := t S H rs hc.2 e
    refine ⟨xs, ys, hq, hq2, ?_⟩
    rw [zip2_len, ← rl.len, ← rl2.len]
    omega
  · rw [zip2_len] at hi
    obtain ⟨xs, hq, rl⟩ := s S H rs hc.1 e
    obtain ⟨ys, hq2, rl2⟩ := t S H rs hc.2 e
    obtain ⟨w, e2, _⟩ := rl.get (List.getElem?_eq_getElem (show i < l.length by omega))
    obtain ⟨w2, e3, _⟩ := rl2.get (List.getElem?_eq_getElem (show i < r.length by omega))
    exact ⟨xs, ys, w, w2, hq, hq2, e2, e3⟩
  · rw [zip2_len] at hi
    obtain ⟨xs, hq, rl⟩ := s S H rs hc.1 e
    obtain ⟨ys, hq2, rl2⟩ := t S H rs hc.2 e
    obtain ⟨T, w, w2, e1, hT, e2, e3, e4⟩ := y
    subst e1 e2
    obtain ⟨w', g1, r1⟩ := rl.get (List.getElem?_eq_getElem (show i < l.length by omega))
    obtain ⟨w2', g2, r2⟩ := rl2.get (List.getElem?_eq_getElem (show i < r.length by omega))
    have e5 := e3 xs hq
    have e6 := e4 ys hq2
    rw [g1] at e5
    rw [g2] at e6
    cases e5
    cases e6
    obtain ⟨h1, h2, h3⟩ := pair_new rs hT r1 r2
    exact ⟨_, zip2_get (by omega) (by omega), h1, h2, h3⟩
theorem ItOk.zipT {r : List D} {c2 : Sto → Prop} {b : Addr} (s : TSrc K S0 H0 l chk a) (t : TSrc K S0 H0 r c2 b) : ItOk K (zip2 l r) (fun S' => chk S' ∧ c2 S') S0 H0 (RZ.ItzT K a b) := by
  refine ⟨fun S H rs hc e => ?_, fun i S H hi rs hc e => ?_, fun i S H x H' hi rs hc e y => ?_⟩
  · obtain ⟨xs, hq, rl⟩ := s S H rs hc.1 e
    obtain ⟨ys, hq2, rl2⟩ := t S H rs hc.2 e
    refine ⟨xs, ys, hq, hq2, ?_⟩
    rw [zip2_len, ← rl.len, ← rl2.len]
    omega
  · rw [zip2_len] at hi
    obtain ⟨xs, hq, rl⟩ := s S H rs hc.1 e
    obtain ⟨ys, hq2, rl2⟩ := t S H rs hc.2 e
    obtain ⟨w, e2, _⟩ := rl.get (List.getElem?_eq_getElem (show i < l.length by omega))
    obtain ⟨w2, e3, _⟩ := rl2.get (List.getElem?_eq_getElem (show i < r.length by omega))
    exact ⟨xs, ys, w, w2, hq, hq2, e2, e3⟩
  · rw [zip2_len] at hi
    obtain ⟨xs, hq, rl⟩ := s S H rs hc.1 e
    obtain ⟨ys, hq2, rl2⟩ := t S H rs hc.2 e
    obtain ⟨T, w, w2, e1, hT, e2, e3, e4⟩ := y
    subst e1 e2
    obtain ⟨w', g1, r1⟩ := rl.get (List.getElem?_eq_getElem (show i < l.length by omega))
    obtain ⟨w2', g2, r2⟩ := rl2.get (List.getElem?_eq_getElem (show i < r.length by omega))
    have e5 := e3 xs hq
    have e6 := e4 ys hq2
    rw [g1] at e5
    rw [g2] at e6
    cases e5
    cases e6
    obtain ⟨h1, h2, h3⟩ := pair_new rs hT r1 r2
    exact ⟨_, zip2_get (by omega) (by omega), h1, h2, h3⟩
theorem ItOk.weak {J : L2.It} {c : Sto → Prop} (o : ItOk K l c S0 H0 J) (h : ∀ S, chk S → c S) : ItOk K l chk S0 H0 J :=
  ⟨fun S H rs hc e => o.stop S H rs (h S hc) e, fun i S H hi rs hc e => o.go i S H hi rs (h S hc) e, fun i S H x H' hi rs hc e y => o.yld i S H x H' hi rs (h S hc) e y⟩
end
/-! ### iterators -/
section
variable {X : Cx} {C : Cs} {W : WX} {p : Prog} {n : Nat} {x y z tg : Expr} {pos : Pos}
/-- a list or a tuple -/
def iSeq (K : PySem.W.Frag) (te : TE) : TI := fun σ H R => te σ H fun v H1 => ∃ a, v = .ref a ∧ (((∃ xs, SqL K H1 a xs) ∧ R (Itl K a) H1) ∨ ((∃ xs, SqT K H1 a xs) ∧ R (Itt K a) H1))
theorem pi_seq {te : TE} (he : PE X x te) : PI X tg x (iSeq X.K te) := by
  refine ⟨fun pins s σ H R I h => thn (he.run pins s σ H _ I h) ?_⟩
  rintro v t ⟨w, G, J, rel, a, rfl, alt⟩
  cases rel
  have new : ∀ b, b ∈ [t.heap.objs.size] → FpOk X pins G b := fun b hb => by
    cases List.mem_singleton.1 hb
    exact J.fpOk (Nat.le_refl _) (J.hok.fresh (Nat.le_refl _))
  rcases alt with ⟨⟨xs, hq⟩, q⟩ | ⟨⟨xs, hq⟩, q⟩
  · obtain ⟨its, rv, pl, hz⟩ := J.list hq
    exact wpAny_pyIter_list pl.isList ⟨t.heap.objs.size, [t.heap.objs.size], _, _, G, rfl, J.kept (t' := t.toks) fun b o e => Heap.get?_push_of_some _ e,
      turn_list a _, ⟨_, Heap.get?_push_size _ rfl, rfl, rfl⟩, new, q⟩
  · obtain ⟨its, rv, pl, hz⟩ := J.tuple hq
    exact wpAny_pyIter_tuple (show t.heap.IsTuple a its.toArray from pl) ⟨t.heap.objs.size, [t.heap.objs.size], _, _, G, rfl, J.kept (t' := t.toks) fun b o e => Heap.get?_push_of_some _ e,
      turn_tuple a _, ⟨_, Heap.get?_push_size _ rfl, rfl, rfl⟩, new, q⟩
theorem i_val {e : Ex} (he : PE X x (lE X C W e)) : PI X tg x (lI X C W (.val e)) := by
  refine (pi_seq he).imp fun σ H R ⟨ds, S, E, Kk, rl, rs, k, aft, xk⟩ => ?_
  refine ⟨ds, S, E, _, rl, rs, k, fun d S1 v H1 k1 e1 rs1 rv => ?_, xk⟩
  obtain ⟨a, l, chk, ev, k2, hc, src⟩ := itv_src rs1 rv k1
  refine ⟨a, ev, ?_⟩
  rcases src with s | s
  · obtain ⟨xs, hq, _⟩ := s S1 H1 rs1 hc Ext.refl
    exact .inl ⟨⟨xs, hq⟩, aft _ _ S1 _ H1 k2 e1 rs1 (ItOk.list s)⟩
  · obtain ⟨xs, hq, _⟩ := s S1 H1 rs1 hc Ext.refl
    exact .inr ⟨⟨xs, hq⟩, aft _ _ S1 _ H1 k2 e1 rs1 (ItOk.tuple s)⟩
theorem i_rev {e : Ex} {q : Pos} (ok : Ok p n X) (hg : gloB X.env.scope (Str.ofString "reversed") = true) (he : PE X x (lE X C W e)) (hs : isStar x = false) : PI X tg (.Call (.Name (Str.ofString "reversed") q) [x] [] pos) (lI X C W (.rev e)) := by
  refine (RT.pi_revA (gl_of hg) (ok.bi _ (by decide +kernel)) he (star_cons hs)).imp fun σ H R ⟨ds, S, E, Kk, rl, rs, k, aft, xk⟩ => ?_
  refine ⟨ds, S, E, _, rl, rs, k, fun d S1 v H1 k1 e1 rs1 rv => ?_, xk⟩
  obtain ⟨a, l, chk, ev, k2, hc, src⟩ := itv_src rs1 rv k1
  rcases src with s | s
  · obtain ⟨xs, hq, rl⟩ := s S1 H1 rs1 hc Ext.refl
    exact ⟨a, xs, ev, .inl ⟨hq, by rw [← rl.len]; exact aft _ _ S1 _ H1 k2 e1 rs1 (ItOk.rev s)⟩⟩
  · obtain ⟨xs, hq, rl⟩ := s S1 H1 rs1 hc Ext.refl
    exact ⟨a, xs, ev, .inr ⟨hq, by rw [← rl.len]; exact aft _ _ S1 _ H1 k2 e1 rs1 (ItOk.revT s)⟩⟩
/-- two in a row, as arguments -/
theorem s_twoA {a b : Ex} {σ : L2.St} {H : Hp} {R : List V → Hp → Prop} {ds : Loc} {S : Sto} {E : XK} {K2 : D → D → Sto → Prop} (rl : RL X.K H ds σ) (rs : RepS X.K S H)
    (h : exW C a ds E S fun d S1 => exW C b ds E S1 fun e S2 => K2 d e S2) (xk : XKs X W σ S H E)
    (go : ∀ d e S2 v w H2, K2 d e S2 → Ext S H S2 H2 → RepS X.K S2 H2 → RV X.K H2 d v → RV X.K H2 e w → R [v, w] H2) : lEs X C W (.cons a (.cons b .nil)) σ H R := by
  refine ⟨ds, S, E, fun l S2 => (match l with | [d, e] => K2 d e S2 | _ => False), rl, rs, h, fun l S2 vs H2 k2 e2 rs2 rvs => ?_, xk⟩
  cases rvs with
  | nil => exact k2.elim
  | cons r1 r =>
    cases r with
    | nil => exact k2.elim
    | cons r2 r =>
      cases r with
      | nil => exact go _ _ S2 _ _ H2 k2 e2 rs2 r1 r2
      | cons _ _ => exact k2.elim
theorem s_oneA {a : Ex} {σ : L2.St} {H : Hp} {R : List V → Hp → Prop} {ds : Loc} {S : Sto} {E : XK} {K2 : D → Sto → Prop} (rl : RL X.K H ds σ) (rs : RepS X.K S H)
    (h : exW C a ds E S fun d S1 => K2 d S1) (xk : XKs X W σ S H E)
    (go : ∀ d S2 v H2, K2 d S2 → Ext S H S2 H2 → RepS X.K S2 H2 → RV X.K H2 d v → R [v] H2) : lEs X C W (.cons a .nil) σ H R := by
  refine ⟨ds, S, E, fun l S2 => (match l with | [d] => K2 d S2 | _ => False), rl, rs, h, fun l S2 vs H2 k2 e2 rs2 rvs => ?_, xk⟩
  cases rvs with
  | nil => exact k2.elim
  | cons r1 r =>
    cases r with
    | nil => exact go _ S2 _ H2 k2 e2 rs2 r1
    | cons _ _ => exact k2.elim
theorem i_rg1 {a : Ex} {q : Pos} (ok : Ok p n X) (hg : gloB X.env.scope (Str.ofString "range") = true) (ha : PE X x (lE X C W a)) (h1 : isStar x = false) : PI X tg (.Call (.Name (Str.ofString "range") q) [x] [] pos) (lI X C W (.rg1 a)) := by
  refine (pi_range1 (gl_of hg) (ok.bi _ (by decide +kernel)) (s_cons ha s_nil h1) (star_cons h1)).imp fun σ H R ⟨ds, S, E, Kk, rl, rs, k, aft, xk⟩ => ?_
  refine s_oneA rl rs k xk fun d S2 v H2 ⟨i, ei, hi, k2⟩ e2 rs2 rv => ?_
  subst ei
  cases rv
  refine ⟨i, rfl, by have := hi.1; omega, hi.2, aft _ _ S2 _ H2 k2 e2 rs2 ?_⟩
  exact ItOk.rng (f := fun k => (k : Int)) (fun _ _ h => h) (fun _ => Nat.le_refl _) fun i H x H' y => ⟨y.1, by rw [y.2]; congr 1; omega⟩
theorem i_rg2 {a b : Ex} {q : Pos} (ok : Ok p n X) (hg : gloB X.env.scope (Str.ofString "range") = true) (ha : PE X x (lE X C W a)) (hb : PE X y (lE X C W b)) (h1 : isStar x = false) (h2 : isStar y = false) :
    PI X tg (.Call (.Name (Str.ofString "range") q) [x, y] [] pos) (lI X C W (.rg2 a b)) := by
  have pl : Pl X [x, y] := .cons h1 (.cons h2 .nil)
  refine (pi_range2 (gl_of hg) (ok.bi _ (by decide +kernel)) (s_cons ha (s_cons hb s_nil h2) h1) pl.all (Pl.cons h2 .nil).all).imp fun σ H R ⟨ds, S, E, Kk, rl, rs, k, aft, xk⟩ => ?_
  refine s_twoA rl rs k xk fun d e S2 v w H2 ⟨i, j, ei, ej, hi, hj, k2⟩ e2 rs2 r1 r2 => ?_
  subst ei ej
  cases r1
  cases r2
  refine ⟨i, j, rfl, ⟨by have := hi.1; omega, hi.2, by have := hj.1; omega, hj.2⟩, aft _ _ S2 _ H2 k2 e2 rs2 ?_⟩
  exact ItOk.rng (f := fun k => i + (k : Int)) (fun _ _ h => h) (fun _ => Nat.le_refl _) fun i H x H' y => y
theorem i_rgd {a b : Ex} {q p1 p2 : Pos} {j} (ok : Ok p n X) (hg : gloB X.env.scope (Str.ofString "range") = true) (ha : PE X x (lE X C W a)) (hb : PE X y (lE X C W b)) (h1 : isStar x = false) (h2 : isStar y = false) :
    PI X tg (.Call (.Name (Str.ofString "range") q) [x, y, .UnaryOp .USub (.Constant (.int 1) j p1) p2] [] pos) (lI X C W (.rgd a b)) := by
  have hm : PE X (.UnaryOp .USub (.Constant (.int 1) j p1) p2) (tC (.int (-1))) := (pe_un un_neg pe_int).imp fun σ H Q h => ⟨1, rfl, h⟩
  have p1' : Pl X [.UnaryOp .USub (.Constant (.int 1) j p1) p2] := .cons rfl .nil
  have p2' : Pl X [y, .UnaryOp .USub (.Constant (.int 1) j p1) p2] := .cons h2 p1'
  refine (pi_range3 (gl_of hg) (ok.bi _ (by decide +kernel)) (pa_cons ha (pa_cons hb (pa_cons hm pa_nil rfl) (star_cons h2)) (star_cons h1)) (star_cons h1) (p2'.any pos)).imp fun σ H R ⟨ds, S, E, Kk, rl, rs, k, aft, xk⟩ => ?_
  refine s_two (R := fun v w H2 => _) rl rs k xk fun d e S2 v w H2 ⟨i, j, ei, ej, hi, hj, k2⟩ e2 rs2 r1 r2 => ?_
  subst ei ej
  cases r1
  cases r2
  refine ⟨i, j, -1, _, rfl, RgC.neg (by have := hi.1; omega) hi.2 (by have := hj.1; omega) hj.2, aft _ _ S2 _ H2 k2 e2 rs2 ?_⟩
  exact ItOk.rng (f := fun k => i - (k : Int)) (fun _ _ h => h) (fun _ => Nat.le_refl _) fun i H x H' y => ⟨y.1, by rw [y.2]; congr 1; omega⟩
theorem i_enum {a : Ex} {q tp : Pos} {elts : List Expr} {kk : Nat} (ok : Ok p n X) (hg : gloB X.env.scope (Str.ofString "enumerate") = true) (ha : PE X x (lE X C W a)) (h1 : isStar x = false) :
    PI X (.Tuple elts kk tp) (.Call (.Name (Str.ofString "enumerate") q) [x] [] pos) (lI X C W (.enum a)) := by
  refine (pi_enumA (gl_of hg) (ok.bi _ (by decide +kernel)) (s_cons ha s_nil h1) (star_cons h1)).imp fun σ H R ⟨ds, S, E, Kk, rl, rs, k, aft, xk⟩ => ?_
  refine s_oneA rl rs k xk fun d S2 v H2 k2 e2 rs2 rv => ?_
  obtain ⟨a, l, chk, ev, k3, hc, src⟩ := itv_src rs2 rv k2
  subst ev
  rcases src with s | s
  · obtain ⟨xs, hq, _⟩ := s S2 H2 rs2 hc Ext.refl
    exact ⟨a, xs, rfl, .inl ⟨hq, aft _ _ S2 _ H2 k3 e2 rs2 (ItOk.enum s)⟩⟩
  · obtain ⟨xs, hq, _⟩ := s S2 H2 rs2 hc Ext.refl
    exact ⟨a, xs, rfl, .inr ⟨hq, aft _ _ S2 _ H2 k3 e2 rs2 (ItOk.enumT s)⟩⟩
theorem i_zip {a b : Ex} {q tp : Pos} {elts : List Expr} {kk : Nat} (ok : Ok p n X) (hg : gloB X.env.scope (Str.ofString "zip") = true) (ha : PE X x (lE X C W a)) (hb : PE X y (lE X C W b)) (h1 : isStar x = false) (h2 : isStar y = false) :
    PI X (.Tuple elts kk tp) (.Call (.Name (Str.ofString "zip") q) [x, y] [] pos) (lI X C W (.zip a b)) := by
  have pl : Pl X [x, y] := .cons h1 (.cons h2 .nil)
  refine (RZ.pi_zipA (gl_of hg) (ok.bi _ (by decide +kernel)) (s_cons ha (s_cons hb s_nil h2) h1) (star_cons h1) ((Pl.cons h2 .nil).any pos)).imp fun σ H R ⟨ds, S, E, Kk, rl, rs, k, aft, xk⟩ => ?_
  refine s_twoA rl rs k xk fun d e S2 v w H2 k2 e2 rs2 r1 r2 => ?_
  have lst : itlW d S2 (fun l c1 => itlW e S2 fun r c2 => Kk (zip2 l r) (fun S' => c1 S' ∧ c2 S') S2) → ∃ (a b : Addr) (xs ys : List V), [v, w] = [V.ref a, V.ref b] ∧ ((SqL X.K H2 a xs ∧ SqL X.K H2 b ys ∧ R (Itz X.K a b) H2) ∨ (SqT X.K H2 a xs ∧ SqT X.K H2 b ys ∧ R (RZ.ItzT X.K a b) H2)) := fun h => by
    obtain ⟨a, l, c1, ev, k3, hc, s⟩ := itl_src rs2 r1 h
    obtain ⟨b, r, c2, ew, k4, hc2, t⟩ := itl_src rs2 r2 k3
    obtain ⟨xs, hq, _⟩ := s S2 H2 rs2 hc Ext.refl
    obtain ⟨ys, hq2, _⟩ := t S2 H2 rs2 hc2 Ext.refl
    subst ev ew
    exact ⟨a, b, xs, ys, rfl, .inl ⟨hq, hq2, aft _ _ S2 _ H2 k4 e2 rs2 (ItOk.zip s t)⟩⟩
  cases d with
  | tup l =>
    cases e with
    | tup r =>
      cases r1 with
      | @tup _ a xs g1 q1 =>
        cases r2 with
        | @tup _ b ys g2 q2 =>
          have s : TSrc X.K S2 H2 l (fun _ => True) a := fun S' H' rs' _ e => ⟨xs, ((e.stay rs2).tpS g1).sq, q1.mono (e.stay rs2)⟩
          have t : TSrc X.K S2 H2 r (fun _ => True) b := fun S' H' rs' _ e => ⟨ys, ((e.stay rs2).tpS g2).sq, q2.mono (e.stay rs2)⟩
          exact ⟨a, b, xs, ys, rfl, .inr ⟨g1.sq, g2.sq, aft _ _ S2 _ H2 k2 e2 rs2 ((ItOk.zipT s t).weak fun _ _ => ⟨trivial, trivial⟩)⟩⟩
    | _ => exact lst k2
  | _ => exact lst k2

/-! ### targets -/
theorem wipe_mem {i : Nat} {v : Option V} {σ : L2.St} : ∀ {vs : List Nat}, i ∈ vs → L2.wipe (σ.set i v) vs = L2.wipe σ vs
  | [], h => by cases h
  | j :: vs, h => by
    simp only [L2.wipe]
    by_cases e : i = j
    · subst e
      by_cases h2 : i ∈ vs
      · rw [wipe_mem h2]
      · have out : ∀ (us : List Nat) (τ : L2.St), i ∉ us → L2.wipe (τ.set i v) us = (L2.wipe τ us).set i v := fun us => by
          induction us with
          | nil => intros; rfl
          | cons u us ih =>
            intro τ hn
            simp only [L2.wipe]
            rw [ih τ (fun z => hn (List.mem_cons_of_mem _ z)), List.set_comm]
            rintro rfl
            exact hn (List.mem_cons_self)
        rw [out vs σ h2, List.set_set]
    · rw [wipe_mem (vs := vs) (by cases h with | head => exact absurd rfl e | tail _ h => exact h)]
def lG (K : PySem.W.Frag) (t : Tg) : TG := fun v σ H Q => ∃ ds d Kk, RL K H ds σ ∧ RV K H d v ∧ tgW t d ds Kk ∧ ∀ ds' σ', Kk ds' → RL K H ds' σ' → (∀ vs : List Nat, (∀ i ∈ tgV t, i ∈ vs) → L2.wipe σ' vs = L2.wipe σ vs) → Q σ' H
def lGs (K : PySem.W.Frag) (t : Tgs) : TGs := fun v σ H Q => ∃ ds d Kk, RL K H ds σ ∧ RVs K H d v ∧ tgsW t d ds Kk ∧ ∀ ds' σ', Kk ds' → RL K H ds' σ' → (∀ vs : List Nat, (∀ i ∈ tgsV t, i ∈ vs) → L2.wipe σ' vs = L2.wipe σ vs) → Q σ' H
def LocOk (X : Cx) (sr : Scope) : Prop := ∀ x, locB sr x = true → L2.Loc X.env.scope x ∧ (X.fn x = true ∨ X.env.scope.names.lookup x = some .local)
theorem _root_.L2.PG.imp {t : TG} {t' : TG} (h : PG X x t) (hi : ∀ v σ H Q, t' v σ H Q → t v σ H Q) : PG X x t' := ⟨fun pins s σ H v u Q I r w => h.run pins s σ H v u Q I r (hi v σ H Q w)⟩
theorem _root_.L2.PGs.imp {l : List Expr} {t : TGs} {t' : TGs} (h : PGs X l t) (hi : ∀ v σ H Q, t' v σ H Q → t v σ H Q) : PGs X l t' := ⟨fun pins s σ H v u Q I r w => h.run pins s σ H v u Q I r (hi v σ H Q w)⟩
theorem g_nm {i : Nat} {nm : Str} {sr : Scope} (ok : Ok p n X) (lo : LocOk X sr) (hN : X.N[i]? = some nm) (hl : locB sr nm = true) : PG X (.Name nm pos) (lG X.K (.nm i)) := by
  refine (pg_name ok.nd hN (lo nm hl).1 (lo nm hl).2).imp fun v σ H Q ⟨ds, d, Kk, rl, rv, k, go⟩ => ?_
  exact go _ _ k (rl.set i rv) fun vs hv => wipe_mem (hv i (by simp [tgV]))
def tgsN : Tgs → Nat
  | .nil => 0
  | .cons _ ts => tgsN ts + 1
theorem tgsW_len : ∀ {ts : Tgs} {l : List D} {σ : Loc} {Kk : Loc → Prop}, (∀ t d σ K, tgW t d σ K → ∃ σ', K σ') → tgsW ts l σ Kk → l.length = tgsN ts
  | .nil, [], _, _, _, _ => rfl
  | .cons t ts, d :: r, σ, Kk, ex, h => by
    obtain ⟨σ', h'⟩ := ex _ _ _ _ (show tgW t d σ fun σ' => tgsW ts r σ' Kk from h)
    simp only [List.length_cons, tgsN]
    rw [tgsW_len ex h']
  | .nil, _ :: _, _, _, _, h => by simp only [tgsW] at h
  | .cons _ _, [], _, _, _, h => by simp only [tgsW] at h
mutual
theorem tgW_ex : ∀ (t : Tg) (d : D) (σ : Loc) (K : Loc → Prop), tgW t d σ K → ∃ σ', K σ'
  | .nm i, d, σ, K, h => ⟨_, h⟩
  | .tp ts, d, σ, K, h => by
    cases d with
    | tup l => exact tgsW_ex ts l σ K h
    | tpu l => exact tgsW_ex ts l σ K h
    | _ => exact h.elim
theorem tgsW_ex : ∀ (t : Tgs) (d : List D) (σ : Loc) (K : Loc → Prop), tgsW t d σ K → ∃ σ', K σ'
  | .nil, [], σ, K, h => ⟨σ, h⟩
  | .cons t ts, d :: r, σ, K, h => by
    obtain ⟨σ', h'⟩ := tgW_ex t d σ _ (show tgW t d σ fun σ' => tgsW ts r σ' K from h)
    exact tgsW_ex ts r σ' K h'
  | .nil, _ :: _, _, _, h => by simp only [tgsW] at h
  | .cons _ _, [], _, _, h => by simp only [tgsW] at h
end
theorem mTs_len {N : List Str} {sr : Scope} : ∀ {ts : Tgs} {l : List Expr}, mTs N sr ts l = true → l.length = tgsN ts
  | .nil, [], _ => rfl
  | .cons t ts, x :: l, h => by
    simp only [mTs, Bool.and_eq_true] at h
    simp only [List.length_cons, tgsN]
    rw [mTs_len h.2]
  | .nil, _ :: _, h => by simp [mTs] at h
  | .cons _ _, [], h => by simp [mTs] at h
theorem mT_as {N : List Str} {sr : Scope} {t : Tg} {x : Expr} (h : mT N sr t x = true) (l : List Expr) (env : Env) : assignEach (x :: l) env = (false, assign x env) :: assignEach l env := by
  cases x with
  | Starred v p => cases t <;> simp [mT] at h
  | _ => rfl
theorem mTs_as {N : List Str} {sr : Scope} {env : Env} : ∀ {ts : Tgs} {l : List Expr}, mTs N sr ts l = true → assignEach l env = l.map fun e => (false, assign e env)
  | .nil, [], _ => rfl
  | .cons t ts, x :: l, h => by
    simp only [mTs, Bool.and_eq_true] at h
    rw [mT_as h.1, mTs_as h.2]
    rfl
  | .nil, _ :: _, h => by simp [mTs] at h
  | .cons _ _, [], h => by simp [mTs] at h
mutual
theorem g_ok {sr : Scope} (ok : Ok p n X) (lo : LocOk X sr) : ∀ (t : Tg) (x : Expr), mT X.N sr t x = true → PG X x (lG X.K t)
  | .nm i, x, h => by
    cases x with
    | Name nm pos =>
      simp only [mT, Bool.and_eq_true, decide_eq_true_eq] at h
      exact g_nm ok lo h.1 h.2
    | _ => simp [mT] at h
  | .tp ts, x, h => by
    cases x with
    | Tuple l k pos =>
      simp only [mT] at h
      have hs := gs_ok ok lo ts l h
      refine (pg_tup (n := l.length) ok.calm hs (by rw [mTs_as h, List.length_map]) (by rw [mTs_as h]; simp [List.findIdx?_eq_none_iff])).imp fun v σ H Q ⟨ds, d, Kk, rl, rv, k, go⟩ => ?_
      cases rv with
      | @tup l' a xs hx rl' =>
        refine ⟨a, xs, rfl, hx.sq, ?_, ds, l', Kk, rl, rl', k, fun ds' σ' h1 h2 h3 => go ds' σ' h1 h2 h3⟩
        rw [← rl'.len, mTs_len h]
        exact tgsW_len tgW_ex k
      | @tpu l' a xs hx rl' =>
        refine ⟨a, xs, rfl, hx, ?_, ds, l', Kk, rl, rl', k, fun ds' σ' h1 h2 h3 => go ds' σ' h1 h2 h3⟩
        rw [← rl'.len, mTs_len h]
        exact tgsW_len tgW_ex k
      | _ => exact False.elim k
    | _ => simp [mT] at h
theorem gs_ok {sr : Scope} (ok : Ok p n X) (lo : LocOk X sr) : ∀ (t : Tgs) (x : List Expr), mTs X.N sr t x = true → PGs X x (lGs X.K t)
  | .nil, x, h => by
    cases x with
    | nil =>
      refine pgs_nil.imp fun v σ H Q ⟨ds, d, Kk, rl, rv, k, go⟩ => ?_
      cases rv with
      | nil => exact ⟨rfl, go _ _ k rl fun _ _ => rfl⟩
      | cons _ _ => exact k.elim
    | cons _ _ => simp [mTs] at h
  | .cons t ts, x, h => by
    cases x with
    | nil => simp [mTs] at h
    | cons e es =>
      simp only [mTs, Bool.and_eq_true] at h
      refine (pgs_cons (g_ok ok lo t e h.1) (gs_ok ok lo ts es h.2) (by rw [mT_as h.1]; rfl)).imp fun v σ H Q ⟨ds, d, Kk, rl, rv, k, go⟩ => ?_
      cases rv with
      | nil => exact k.elim
      | @cons d r v vs rd rr =>
        refine ⟨v, vs, rfl, ds, d, _, rl, rd, k, fun ds1 σ1 k1 rl1 w1 => ?_⟩
        refine ⟨ds1, r, Kk, rl1, rr, k1, fun ds2 σ2 k2 rl2 w2 => go ds2 σ2 k2 rl2 fun vs hv => ?_⟩
        rw [w2 vs fun i hi => hv i (by simp [tgsV, hi]), w1 vs fun i hi => hv i (by simp [tgsV, hi])]
end

/-! ### comprehensions -/
theorem tLc_ok {σ : L2.St} {ds : Loc} {S S1 : Sto} {H H1 : Hp} {l : List D} {chk : Sto → Prop} {J : L2.It} {vs : List Nat} {tg : Tg} {c : Oe} {elt : Ex} {Kk : DK} {Q : VK} (rl : RL X.K H ds σ) (rs : RepS X.K S H) (e1 : Ext S H S1 H1) (rs1 : RepS X.K S1 H1) (hv : ∀ i ∈ tgV tg, i ∈ vs)
    (io : ItOk X.K l chk S1 H1 J) (aft : Aft X.K S H Kk Q)
    (k : lcW chk (fun d S2 Kt => tgW tg d (wipe ds vs) fun σ2 => ocW C c σ2 S2 fun b S3 => if b = true then exW C elt σ2 noX S3 fun x S4 => Kt (some x) S4 else Kt none S3) l [] S1 fun l S5 => newl l S5 Kk) :
    ∀ D, H1 D = none → ∃ W : Nat → Nat → Hp → Prop, (∃ m, W 0 m (upd H1 D (.lst []))) ∧ ∀ i m H, W i m H →
      (J.stop i H ∧ frQ Q (.ref D) H) ∨ (J.go i H ∧ ∃ Nx : Hp → Prop, (∀ H', Nx H' → ∃ m', m' < m ∧ W (i + 1) m' H') ∧ ∀ x H', J.yld i H x H' → lG X.K tg x (L2.wipe σ vs) H' fun σ2 H2 => L2.wipe σ2 vs = L2.wipe σ vs ∧ lC X C c σ2 H2 fun b H3 =>
        if b = true then lE X C (fun _ _ _ _ => False) elt σ2 H3 fun y H4 => ∃ acc, H4 D = some (.lst acc) ∧ acc.length < sizeLine ∧ Nx (upd H4 D (.lst (acc ++ [y]))) else Nx H3) := by
  intro DD hD
  have hSD : S1 DD = none := rs1.ne hD
  let turn : D → Sto → (Option D → Sto → Prop) → Prop := fun d S2 Kt => tgW tg d (wipe ds vs) fun σ2 => ocW C c σ2 S2 fun b S3 => if b = true then exW C elt σ2 noX S3 fun x S4 => Kt (some x) S4 else Kt none S3
  let fin : List D → Sto → Prop := fun l S5 => newl l S5 Kk
  let In : Nat → Hp → Prop := fun i G => ∃ T acc av, lcW chk turn (l.drop i) acc T fin ∧ RepS X.K T G ∧ Ext S1 H1 T G ∧ T DD = none ∧ G DD = some (.lst av) ∧ RVs X.K G acc av
  refine ⟨fun i m G => m = l.length - i ∧ i ≤ l.length ∧ In i G, ⟨l.length, by simp, Nat.zero_le _, S1, [], [], by rw [List.drop_zero]; exact k, rs1.free hD, Ext.free rs1 hD, hSD, upd_same, .nil⟩, ?_⟩
  rintro i m G ⟨rfl, hi, T, acc, av, kk, rT, eT, hT, hG, ra⟩
  by_cases hlt : i < l.length
  · rw [List.drop_eq_getElem_cons hlt] at kk
    obtain ⟨hc, kk⟩ := kk
    refine .inr ⟨io.go i T G hlt rT hc eT, In (i + 1), fun G' h => ⟨l.length - (i + 1), by omega, rfl, hlt, h⟩, fun x G1 y => ?_⟩
    obtain ⟨d, ed, rd, eG, rG⟩ := io.yld i T G x G1 hlt rT hc eT y
    rw [List.getElem?_eq_getElem hlt] at ed
    cases ed
    have st0 : Stay H G1 := ((e1.trans eT).trans eG).stay rs
    refine ⟨wipe ds vs, _, _, (rl.mono st0).wipe vs, rd, kk, fun ds2 σ2 k2 rl2 w2 => ⟨?_, ?_⟩⟩
    · rw [w2 vs hv]
      have ww : ∀ vs : List Nat, L2.wipe (L2.wipe σ vs) vs = L2.wipe σ vs := fun vs => by
        have one : ∀ (us : List Nat) (τ : L2.St), (∀ u ∈ us, u < τ.length → τ[u]? = some none) → L2.wipe τ us = τ := fun us => by
          induction us with
          | nil => intros; rfl
          | cons u us ih =>
            intro τ h
            simp only [L2.wipe]
            rw [ih τ fun v hv => h v (List.mem_cons_of_mem _ hv)]
            by_cases hu : u < τ.length
            · have e := h u List.mem_cons_self hu
              apply List.ext_getElem?
              intro j
              by_cases hj : u = j
              · subst hj; rw [List.getElem?_set_self hu, e]
              · rw [List.getElem?_set_ne hj]
            · exact List.set_eq_of_length_le (by omega)
        have len : ∀ (us : List Nat) (τ : L2.St), (L2.wipe τ us).length = τ.length := fun us => by
          induction us with
          | nil => intros; rfl
          | cons u us ih => intro τ; simp only [L2.wipe, List.length_set]; exact ih τ
        have no : ∀ (us : List Nat) (τ : L2.St) (u : Nat), u ∈ us → u < τ.length → (L2.wipe τ us)[u]? = some none := fun us => by
          induction us with
          | nil => intro _ _ h; cases h
          | cons w us ih =>
            intro τ u hu hl
            simp only [L2.wipe]
            by_cases e : w = u
            · subst e
              rw [List.getElem?_set_self (by rw [len]; exact hl)]
            · rw [List.getElem?_set_ne e]
              exact ih τ u (by cases hu with | head => exact absurd rfl e | tail _ h => exact h) hl
        exact one vs _ fun u hu hl => no vs σ u hu (by rw [len] at hl; exact hl)
      exact ww vs
    · refine ⟨ds2, T, _, rl2, rG, k2, fun b S3 H3 k3 e3 rs3 => ?_⟩
      have hT3 : S3 DD = none := e3.away DD hT (by rw [eG.keep DD _ hT hG]; simp)
      have hG3 : H3 DD = some (.lst av) := e3.keep DD _ hT (eG.keep DD _ hT hG)
      have ra3 : RVs X.K H3 acc av := ra.mono ((eG.stay rT).trans (e3.stay rG))
      cases b with
      | false =>
        rw [if_neg Bool.false_ne_true] at k3
        show In (i + 1) H3
        exact ⟨S3, acc, av, k3, rs3, (eT.trans eG).trans e3, hT3, hG3, ra3⟩
      | true =>
        rw [if_pos rfl] at k3
        show lE X C (fun _ _ _ _ => False) elt σ2 H3 _
        refine ⟨ds2, S3, noX, _, rl2.mono (e3.stay rG), rs3, k3, fun d' S4 v H4 ⟨hz, k4⟩ e4 rs4 rv => ?_, fun _ _ _ _ _ z => z.elim⟩
        have hT4 : S4 DD = none := e4.away DD hT3 (by rw [hG3]; simp)
        have hG4 : H4 DD = some (.lst av) := e4.keep DD _ hT3 hG3
        have ra4 : RVs X.K H4 acc av := ra3.mono (e4.stay rs3)
        refine ⟨av, hG4, by rw [← ra4.len, ← line_eq]; exact hz, S4, acc ++ [d'], av ++ [v], k4, fun a o ea => ?_, ⟨fun a o h1 h2 => ?_, fun a h1 h2 => (((eT.trans eG).trans e3).trans e4).away a h1 h2⟩, hT4, upd_same, (ra4.app (.cons rv .nil)).mono (stay_old hG4 trivial)⟩
        · have ne : a ≠ DD := by rintro rfl; rw [hT4] at ea; cases ea
          exact (rs4 a o ea).mono (stay_old hG4 trivial) fun u q => by rw [upd_ne ne]; exact q
        · have ne : a ≠ DD := by rintro rfl; rw [hD] at h2; cases h2
          rw [upd_ne ne]
          exact (((eT.trans eG).trans e3).trans e4).keep a o h1 h2
  · have ei : i = l.length := by omega
    subst ei
    rw [List.drop_length] at kk
    obtain ⟨hc, kk⟩ := kk
    rcases kk with kk | kk
    · refine .inl ⟨io.stop T G rT hc eT, frQ_no (aft (.ref DD) (put T DD (.lst acc)) _ G (kk DD hT) (e1.trans ⟨eT.keep, fun a h1 h2 => ?_⟩) (fun a o ea => ?_) (.ref DD))⟩
      · rw [put_ne (by rintro rfl; exact h2 hD)]
        exact eT.away a h1 h2
      · by_cases h : a = DD
        · subst h
          rw [put_same] at ea
          cases ea
          exact ⟨av, hG, ra⟩
        · rw [put_ne h] at ea
          exact rT a o ea
    · refine .inl ⟨io.stop T G rT hc eT, [DD], av, hG, fun o => ?_⟩
      have st : Stay G (L2.upd G DD (.frz o (.lst av))) := stay_old hG trivial
      refine aft (.fz acc) T _ _ kk (e1.trans ⟨fun a u n e => ?_, eT.away⟩) (fun a u ea => ?_) (.fz (.inl ⟨o, upd_same⟩) (ra.mono st))
      · have ne : a ≠ DD := by rintro rfl; rw [hD] at e; cases e
        rw [upd_ne ne]; exact eT.keep a u n e
      · have ne : a ≠ DD := by rintro rfl; rw [hT] at ea; cases ea
        exact (rT a u ea).mono st fun w q => by rw [upd_ne ne]; exact q
end
end Ev
set_option Elab.async false
set_option linter.all false
set_option maxRecDepth 100000
set_option maxHeartbeats 4000000
/-! EvC4: the expressions together. -/
namespace Ev
open PySem PySem.Spec PyProof.Rows L2

theorem tgs_all {tg : Tg} {vs : List Nat} (h : ((tgV tg).all fun i => decide (i ∈ vs)) = true) : ∀ i ∈ tgV tg, i ∈ vs := fun i hi => of_decide_eq_true (List.all_eq_true.1 h i hi)
theorem loc_blk {X : Cx} {s : Shared} {H : Hp} {sc : Scope} {cl : List (Str × Addr)} {A : Addr} {fp : List Addr} : LocOk (X.blk s H sc (compEnvC sc cl A X.env) fp) sc := fun x h => by
  unfold locB at h
  split at h
  · rename_i e
    have e2 := lookup_relS_keep (sc := X.env.scope) (k := .local) (by decide) e
    exact ⟨.inl e2, .inr e2⟩
  · rename_i e
    have e2 := lookup_relS_keep (sc := X.env.scope) (k := .cell) (by decide) e
    refine ⟨.inr e2, .inl ?_⟩
    show (sc.names.lookup x == some NameKind.cell) = true
    rw [e]
    rfl
  · cases h
theorem notSet_fold {x : Expr} (h : notSet x = true) (env : Env) (v : Value) : foldedSetIterable x env v = pure v := by
  cases x <;> first | rfl | cases h
theorem mI_fold {G : Gt} {N : List Str} {sc : Scope} {it : It} {t x : Expr} (h : mI G N sc it t x = true) (env : Env) (v : Value) : foldedSetIterable x env v = pure v := by
  cases x with
  | Set l k p => cases it <;> cases t <;> simp [mI, notSet] at h
  | _ => rfl
theorem mth_bad {G : Gt} {N : List Str} {sc : Scope} {m : Mt} {o a : Ex} {es : Exs} {x : Expr} (hb : mokB m es = false) : mE G N sc (.mth m o (.cons a es)) x = false := by
  cases x with
  | Call g l kw pos =>
    cases g with
    | Attribute y nm ap => cases l <;> cases kw <;> simp [mE, hb]
    | _ => simp [mE]
  | _ => simp [mE]
section
variable {p : Prog} {n : Nat} {G : Gt} (hG : GOk G p)
include hG
mutual
theorem e_ok : ∀ (e : Ex) (X : Cx) (W : WX) (x : Expr), Ok p n X → Takes X W → mE G X.N X.env.scope e x = true → PE X x (lE X (callC p n) W e)
  | .var i, X, W, x, ok, tk, h => by
    cases x with
    | Name nm pos =>
      simp only [mE, Bool.and_eq_true, decide_eq_true_eq] at h
      exact s_var h.1 h.2.1 h.2.2
    | _ => simp [mE] at h
  | .non, X, W, x, ok, tk, h => by
    cases x with
    | Constant c j pos =>
      cases c with
      | none => exact s_non
      | _ => simp [mE] at h
    | _ => simp [mE] at h
  | .bl b, X, W, x, ok, tk, h => by
    cases x with
    | Constant c j pos =>
      cases c with
      | bool d =>
        have e : b = d := by simpa [mE] using h
        subst e
        exact s_bl
      | _ => simp [mE] at h
    | _ => simp [mE] at h
  | .int b, X, W, x, ok, tk, h => by
    cases x with
    | Constant c j pos =>
      cases c with
      | int d =>
        have e : b = d := by simpa [mE] using h
        subst e
        exact s_int
      | _ => simp [mE] at h
    | _ => simp [mE] at h
  | .str b, X, W, x, ok, tk, h => by
    cases x with
    | Constant c j pos =>
      cases c with
      | str d =>
        have e : b = d := by simpa [mE] using h
        subst e
        exact s_str
      | _ => simp [mE] at h
    | _ => simp [mE] at h
  | .tup es, X, W, x, ok, tk, h => by
    cases x with
    | Tuple l j pos =>
      simp only [mE] at h
      exact s_tup (es_ok es X W l ok tk h)
    | _ => simp [mE] at h
  | .lst es, X, W, x, ok, tk, h => by
    cases x with
    | List l pos =>
      simp only [mE] at h
      exact s_lst (es_ok es X W l ok tk h)
    | _ => simp [mE] at h
  | .dic0, X, W, x, ok, tk, h => by
    cases x with
    | Dict ks vs pos =>
      cases ks with
      | nil =>
        cases vs with
        | nil => exact s_dic0
        | cons _ _ => simp [mE] at h
      | cons _ _ => simp [mE] at h
    | _ => simp [mE] at h
  | .bin op a b, X, W, x, ok, tk, h => by
    cases x with
    | BinOp x o y pos =>
      simp only [mE, Bool.and_eq_true, decide_eq_true_eq] at h
      obtain ⟨rfl, h1, h2⟩ := h
      exact s_bin (e_ok a X W x ok tk h1) (e_ok b X W y ok tk h2)
    | _ => simp [mE] at h
  | .neg a, X, W, x, ok, tk, h => by
    cases x with
    | UnaryOp o x pos =>
      cases o with
      | USub =>
        simp only [mE] at h
        exact s_neg (e_ok a X W x ok tk h)
      | _ => simp [mE] at h
    | _ => simp [mE] at h
  | .inv a, X, W, x, ok, tk, h => by
    cases x with
    | UnaryOp o x pos =>
      cases o with
      | Invert =>
        simp only [mE] at h
        exact s_inv (e_ok a X W x ok tk h)
      | _ => simp [mE] at h
    | _ => simp [mE] at h
  | .not a, X, W, x, ok, tk, h => by
    cases x with
    | UnaryOp o x pos =>
      cases o with
      | Not =>
        simp only [mE] at h
        exact s_not (e_ok a X W x ok tk h)
      | _ => simp [mE] at h
    | _ => simp [mE] at h
  | .cmp op a b, X, W, x, ok, tk, h => by
    cases x with
    | Compare x os ys pos =>
      rcases os with _ | ⟨o, _ | ⟨o2, os⟩⟩ <;> rcases ys with _ | ⟨y, _ | ⟨y2, ys⟩⟩ <;> first | (simp [mE] at h; done) | skip
      simp only [mE, Bool.and_eq_true, decide_eq_true_eq] at h
      obtain ⟨rfl, h1, h2⟩ := h
      exact s_cmp ok.hu (e_ok a X W x ok tk h1) (e_ok b X W y ok tk h2) (mE_pl h2).2.2
    | _ => simp [mE] at h
  | .chn o1 o2 a b c, X, W, x, ok, tk, h => by
    cases x with
    | Compare x os ys pos =>
      rcases os with _ | ⟨o, _ | ⟨o', _ | ⟨o3, os⟩⟩⟩ <;> rcases ys with _ | ⟨y, _ | ⟨y2, _ | ⟨y3, ys⟩⟩⟩ <;> first | (simp [mE] at h; done) | skip
      simp only [mE, Bool.and_eq_true, decide_eq_true_eq] at h
      obtain ⟨rfl, rfl, h1, h2, h3⟩ := h
      exact s_chn ok.hu (e_ok a X W x ok tk h1) (e_ok b X W y ok tk h2) (e_ok c X W y2 ok tk h3) (mE_pl h3).2.2
    | _ => simp [mE] at h
  | .and a b, X, W, x, ok, tk, h => by
    cases x with
    | BoolOp o xs pos =>
      cases o with
      | And =>
        rcases xs with _ | ⟨x, _ | ⟨y, _ | ⟨z, xs⟩⟩⟩ <;> first | (simp [mE] at h; done) | skip
        · simp only [mE, Bool.and_eq_true] at h
          exact s_and (e_ok a X W x ok tk h.1) (pe_one (e_ok b X W y ok tk h.2))
        · simp only [mE, Bool.and_eq_true] at h
          exact s_and (e_ok a X W x ok tk h.1) (e_ok b X W _ ok tk h.2)
      | Or => simp [mE] at h
    | _ => simp [mE] at h
  | .or a b, X, W, x, ok, tk, h => by
    cases x with
    | BoolOp o xs pos =>
      cases o with
      | Or =>
        rcases xs with _ | ⟨x, _ | ⟨y, _ | ⟨z, xs⟩⟩⟩ <;> first | (simp [mE] at h; done) | skip
        · simp only [mE, Bool.and_eq_true] at h
          exact s_or (e_ok a X W x ok tk h.1) (pe_one (e_ok b X W y ok tk h.2))
        · simp only [mE, Bool.and_eq_true] at h
          exact s_or (e_ok a X W x ok tk h.1) (e_ok b X W _ ok tk h.2)
      | And => simp [mE] at h
    | _ => simp [mE] at h
  | .ite c a b, X, W, x, ok, tk, h => by
    cases x with
    | IfExp x y z pos =>
      simp only [mE, Bool.and_eq_true] at h
      exact s_ite (t_ok c X W x ok tk h.1 h.2.1) (e_ok a X W y ok tk h.2.2.1) (e_ok b X W z ok tk h.2.2.2)
    | _ => simp [mE] at h
  | .idx a i, X, W, x, ok, tk, h => by
    cases x with
    | Subscript x y pos =>
      have h' : mE G X.N X.env.scope a x = true ∧ mE G X.N X.env.scope i y = true := by
        cases y <;> simpa [mE] using h
      exact s_idx ok.hu (e_ok a X W x ok tk h'.1) (e_ok i X W y ok tk h'.2) (mE_pl h'.2).2.1
    | _ => simp [mE] at h
  | .slc a lo hi, X, W, x, ok, tk, h => by
    cases x with
    | Subscript x y pos =>
      cases y with
      | Slice l u s p2 =>
        cases s with
        | none =>
          simp only [mE, Bool.and_eq_true] at h
          exact s_slc (e_ok a X W x ok tk h.1) (o_ok lo X W l ok tk h.2.1) (o_ok hi X W u ok tk h.2.2)
        | some _ => simp [mE] at h
      | _ => simp [mE] at h
    | _ => simp [mE] at h
  | .call f es, X, W, x, ok, tk, h => by
    cases x with
    | Call g l kw pos =>
      cases g with
      | Name g q =>
        cases kw with
        | nil =>
          simp only [mE, Bool.and_eq_true, decide_eq_true_eq] at h
          obtain ⟨rfl, h1, h2, h3, h4⟩ := h
          obtain ⟨d, hd⟩ := hG.fs f h1
          cases l with
          | nil =>
            cases es with
            | nil => exact s_call0 ok tk h3 h2 hd
            | cons _ _ => simp [mEs] at h4
          | cons e l =>
            have pl := mEs_pl h4 (X := X)
            have hs : isStar e = false := by
              cases es with
              | nil => simp [mEs] at h4
              | cons _ _ =>
                simp only [mEs, Bool.and_eq_true] at h4
                exact (mE_pl h4.1).1
            have hp : Pl X l := by
              cases es with
              | nil => simp [mEs] at h4
              | cons _ _ =>
                simp only [mEs, Bool.and_eq_true] at h4
                exact mEs_pl h4.2
            exact s_call ok tk h3 h2 hd (es_ok es X W (e :: l) ok tk h4) hs hp
        | cons _ _ => simp [mE] at h
      | _ => simp [mE] at h
    | _ => simp [mE] at h
  | .blt f es, X, W, x, ok, tk, h => by
    cases x with
    | Call g l kw pos =>
      cases g with
      | Name g q =>
        rcases l with _ | ⟨e, l⟩ <;> rcases kw with _ | ⟨k, kw⟩ <;> first | (simp [mE] at h; done) | skip
        simp only [mE, Bool.and_eq_true, decide_eq_true_eq] at h
        obtain ⟨rfl, h2, h4⟩ := h
        have hs : isStar e = false := by
          cases es with
          | nil => simp [mEs] at h4
          | cons _ _ =>
            simp only [mEs, Bool.and_eq_true] at h4
            exact (mE_pl h4.1).1
        have hp : Pl X l := by
          cases es with
          | nil => simp [mEs] at h4
          | cons _ _ =>
            simp only [mEs, Bool.and_eq_true] at h4
            exact mEs_pl h4.2
        exact s_blt ok h2 (es_ok es X W (e :: l) ok tk h4) hs hp
      | _ => simp [mE] at h
    | _ => simp [mE] at h
  | .isi a t, X, W, x, ok, tk, h => by
    cases x with
    | Call g l kw pos =>
      cases g with
      | Name g q =>
        rcases l with _ | ⟨e, _ | ⟨T, _ | ⟨e3, l⟩⟩⟩ <;> rcases kw with _ | ⟨k, kw⟩ <;> first | (simp [mE] at h; done) | skip
        · cases T with
          | Name T p2 =>
            simp only [mE, Bool.and_eq_true, decide_eq_true_eq] at h
            exact s_isi ok (e_ok a X W e ok tk h.2.2.2.2) (mE_pl h.2.2.2.2).1 h.1 h.2.1 h.2.2.1 h.2.2.2.1
          | _ => simp [mE] at h
        all_goals (cases T <;> simp [mE] at h)
      | _ => simp [mE] at h
    | _ => simp [mE] at h
  | .mth .append o (.cons a es), X, W, x, ok, tk, h => by
    cases x with
    | Call g l kw pos =>
      cases g with
      | Attribute y nm ap =>
        rcases kw with _ | ⟨k, kw⟩
        · cases l with
          | nil => simp [mE] at h
          | cons z l =>
            simp only [mE, Bool.and_eq_true, decide_eq_true_eq] at h
            obtain ⟨hm, rfl, h1, h2, h3, h4, h5, h6⟩ := h
            exact s_mth ok.hu (.inl rfl) h1 h2 h3 (e_ok o X W y ok tk h4) (s_cons (e_ok a X W z ok tk h5) (es_ok es X W l ok tk h6) (mE_pl h5).1) (mE_pl h5).1 (mEs_pl h6)
        · cases l <;> simp [mE] at h
      | _ => simp [mE] at h
    | _ => simp [mE] at h
  | .mth .append o .nil, X, W, x, ok, tk, h => by simp [mE] at h
  | .mth .extend o (.cons a es), X, W, x, ok, tk, h => by
    cases x with
    | Call g l kw pos =>
      cases g with
      | Attribute y nm ap =>
        rcases kw with _ | ⟨k, kw⟩
        · cases l with
          | nil => simp [mE] at h
          | cons z l =>
            simp only [mE, Bool.and_eq_true, decide_eq_true_eq] at h
            obtain ⟨hm, rfl, h1, h2, h3, h4, h5, h6⟩ := h
            exact s_mth ok.hu (.inr (.inl rfl)) h1 h2 h3 (e_ok o X W y ok tk h4) (s_cons (e_ok a X W z ok tk h5) (es_ok es X W l ok tk h6) (mE_pl h5).1) (mE_pl h5).1 (mEs_pl h6)
        · cases l <;> simp [mE] at h
      | _ => simp [mE] at h
    | _ => simp [mE] at h
  | .mth .extend o .nil, X, W, x, ok, tk, h => by simp [mE] at h
  | .mth .pop1 o (.cons a es), X, W, x, ok, tk, h => by
    cases x with
    | Call g l kw pos =>
      cases g with
      | Attribute y nm ap =>
        rcases kw with _ | ⟨k, kw⟩
        · cases l with
          | nil => simp [mE] at h
          | cons z l =>
            simp only [mE, Bool.and_eq_true, decide_eq_true_eq] at h
            obtain ⟨hm, rfl, h1, h2, h3, h4, h5, h6⟩ := h
            exact s_mth ok.hu (.inr (.inr (.inl rfl))) h1 h2 h3 (e_ok o X W y ok tk h4) (s_cons (e_ok a X W z ok tk h5) (es_ok es X W l ok tk h6) (mE_pl h5).1) (mE_pl h5).1 (mEs_pl h6)
        · cases l <;> simp [mE] at h
      | _ => simp [mE] at h
    | _ => simp [mE] at h
  | .mth .pop1 o .nil, X, W, x, ok, tk, h => by simp [mE] at h
  | .mth .get2 o (.cons a (.cons b .nil)), X, W, x, ok, tk, h => by
    cases x with
    | Call g l kw pos =>
      cases g with
      | Attribute y nm ap =>
        rcases kw with _ | ⟨k, kw⟩
        · rcases l with _ | ⟨z, _ | ⟨z2, _ | ⟨z3, l⟩⟩⟩ <;> first | (simp [mE, mEs] at h; done) | skip
          simp only [mE, mEs, Bool.and_eq_true, decide_eq_true_eq] at h
          obtain ⟨hm, rfl, h1, h2, h3, h4, h5, h6, _⟩ := h
          exact s_get2 ok.hu h1 h2 (e_ok o X W y ok tk h4) (e_ok a X W z ok tk h5) (e_ok b X W z2 ok tk h6) (mE_pl h5).1 (mE_pl h6).1
        · cases l <;> simp [mE] at h
      | _ => simp [mE] at h
    | _ => simp [mE] at h
  | .mth .get2 o .nil, X, W, x, ok, tk, h => by simp [mE] at h
  | .mth .get2 o (.cons a .nil), X, W, x, ok, tk, h => by rw [mth_bad rfl] at h; cases h
  | .mth .get2 o (.cons a (.cons b (.cons c es))), X, W, x, ok, tk, h => by rw [mth_bad rfl] at h; cases h
  | .mth .bitlen o .nil, X, W, x, ok, tk, h => by
    cases x with
    | Call g l kw pos =>
      cases g with
      | Attribute y nm ap =>
        rcases kw with _ | ⟨k, kw⟩
        · cases l with
          | nil =>
            simp only [mE, Bool.and_eq_true, decide_eq_true_eq] at h
            obtain ⟨rfl, h1, h2, h3⟩ := h
            exact s_bits h1 h2 (e_ok o X W y ok tk h3)
          | cons _ _ => simp [mE] at h
        · cases l <;> simp [mE] at h
      | _ => simp [mE] at h
    | _ => simp [mE] at h
  | .mth .bitlen o (.cons a es), X, W, x, ok, tk, h => by rw [mth_bad (by cases es <;> rfl)] at h; cases h
  | .mth .pop0 o .nil, X, W, x, ok, tk, h => by
    cases x with
    | Call g l kw pos =>
      cases g with
      | Attribute y nm ap =>
        rcases kw with _ | ⟨k, kw⟩
        · cases l with
          | nil =>
            simp only [mE, Bool.and_eq_true, decide_eq_true_eq] at h
            obtain ⟨rfl, h1, h2, h3⟩ := h
            exact s_pop0 h1 h2 (e_ok o X W y ok tk h3)
          | cons _ _ => simp [mE] at h
        · cases l <;> simp [mE] at h
      | _ => simp [mE] at h
    | _ => simp [mE] at h
  | .mth .pop0 o (.cons a es), X, W, x, ok, tk, h => by rw [mth_bad (by cases es <;> rfl)] at h; cases h
  | .mth .insert o .nil, X, W, x, ok, tk, h => by simp [mE] at h
  | .mth .insert o (.cons a es), X, W, x, ok, tk, h => by
    cases x with
    | Call g l kw pos =>
      cases g with
      | Attribute y nm ap =>
        rcases kw with _ | ⟨k, kw⟩
        · cases l with
          | nil => simp [mE] at h
          | cons z l =>
            simp only [mE, Bool.and_eq_true, decide_eq_true_eq] at h
            obtain ⟨hm, rfl, h1, h2, h3, h4, h5, h6⟩ := h
            exact s_mth ok.hu (.inr (.inr (.inr (.inl rfl)))) h1 h2 h3 (e_ok o X W y ok tk h4) (s_cons (e_ok a X W z ok tk h5) (es_ok es X W l ok tk h6) (mE_pl h5).1) (mE_pl h5).1 (mEs_pl h6)
        · cases l <;> simp [mE] at h
      | _ => simp [mE] at h
    | _ => simp [mE] at h
  | .mth .remove o .nil, X, W, x, ok, tk, h => by simp [mE] at h
  | .mth .remove o (.cons a es), X, W, x, ok, tk, h => by rw [mth_bad (by cases es <;> rfl)] at h; cases h
  | .mth .index o .nil, X, W, x, ok, tk, h => by simp [mE] at h
  | .mth .index o (.cons a es), X, W, x, ok, tk, h => by
    cases x with
    | Call g l kw pos =>
      cases g with
      | Attribute y nm ap =>
        rcases kw with _ | ⟨k, kw⟩
        · cases l with
          | nil => simp [mE] at h
          | cons z l =>
            simp only [mE, Bool.and_eq_true, decide_eq_true_eq] at h
            obtain ⟨hm, rfl, h1, h2, h3, h4, h5, h6⟩ := h
            exact s_mth ok.hu (.inr (.inr (.inr (.inr (.inl rfl))))) h1 h2 h3 (e_ok o X W y ok tk h4) (s_cons (e_ok a X W z ok tk h5) (es_ok es X W l ok tk h6) (mE_pl h5).1) (mE_pl h5).1 (mEs_pl h6)
        · cases l <;> simp [mE] at h
      | _ => simp [mE] at h
    | _ => simp [mE] at h
  | .mth .count o .nil, X, W, x, ok, tk, h => by simp [mE] at h
  | .mth .count o (.cons a es), X, W, x, ok, tk, h => by
    cases x with
    | Call g l kw pos =>
      cases g with
      | Attribute y nm ap =>
        rcases kw with _ | ⟨k, kw⟩
        · cases l with
          | nil => simp [mE] at h
          | cons z l =>
            simp only [mE, Bool.and_eq_true, decide_eq_true_eq] at h
            obtain ⟨hm, rfl, h1, h2, h3, h4, h5, h6⟩ := h
            exact s_mth ok.hu (.inr (.inr (.inr (.inr (.inr rfl))))) h1 h2 h3 (e_ok o X W y ok tk h4) (s_cons (e_ok a X W z ok tk h5) (es_ok es X W l ok tk h6) (mE_pl h5).1) (mE_pl h5).1 (mEs_pl h6)
        · cases l <;> simp [mE] at h
      | _ => simp [mE] at h
    | _ => simp [mE] at h
  | .mth .reverse o .nil, X, W, x, ok, tk, h => by simp [mE] at h
  | .mth .reverse o (.cons a es), X, W, x, ok, tk, h => by rw [mth_bad (by cases es <;> rfl)] at h; cases h
  | .dic1 a b, X, W, x, ok, tk, h => by
    cases x with
    | Dict ks vs pos =>
      rcases ks with _ | ⟨k, _ | ⟨k2, ks⟩⟩ <;> rcases vs with _ | ⟨v, _ | ⟨v2, vs⟩⟩ <;> first | (simp [mE] at h; done) | skip
      cases k with
      | none => simp [mE] at h
      | some k =>
        simp only [mE, Bool.and_eq_true] at h
        exact s_dic1 (e_ok a X W k ok tk h.1) (e_ok b X W v ok tk h.2)
    | _ => simp [mE] at h
  | .cst nm d, X, W, x, ok, tk, h => by
    cases x with
    | Name y pos =>
      simp only [mE, Bool.and_eq_true, decide_eq_true_eq] at h
      obtain ⟨rfl, h1, h2, h3⟩ := h
      exact s_cst (ok.cs _ _ (hG.cst h3)) h1 h2
    | _ => simp [mE] at h
  | .cix nm kv i, X, W, x, ok, tk, h => by
    cases x with
    | Subscript o e pos =>
      cases o with
      | Name y q =>
        simp only [mE, Bool.and_eq_true, decide_eq_true_eq] at h
        obtain ⟨rfl, h1, h2, h3, h4⟩ := h
        exact s_cix (ok.ts _ _ (hG.dct h3)) h1 h2 (e_ok i X W e ok tk h4) (mE_pl h4).2.1
      | _ => simp [mE] at h
    | _ => simp [mE] at h
  | .rgl a, X, W, x, ok, tk, h => by
    cases x with
    | Call g l kw pos =>
      cases g with
      | Name g q =>
        rcases l with _ | ⟨y, _ | ⟨y2, l⟩⟩ <;> rcases kw with _ | ⟨k, kw⟩ <;> first | (simp [mE] at h; done) | skip
        cases y with
        | Call r l2 kw2 pos2 =>
          cases r with
          | Name r q2 =>
            rcases l2 with _ | ⟨z, _ | ⟨z2, l2⟩⟩ <;> rcases kw2 with _ | ⟨k2, kw2⟩ <;> first | (simp [mE] at h; done) | skip
            simp only [mE, Bool.and_eq_true, decide_eq_true_eq] at h
            obtain ⟨rfl, h1, rfl, h2, h3⟩ := h
            exact s_rgl ok h1 h2 (e_ok a X W z ok tk h3) (mE_pl h3).1
          | _ => simp [mE] at h
        | _ => simp [mE] at h
      | _ => simp [mE] at h
    | _ => simp [mE] at h
  | .rgt a, X, W, x, ok, tk, h => by
    cases x with
    | Call g l kw pos =>
      cases g with
      | Name g q =>
        rcases l with _ | ⟨y, _ | ⟨y2, l⟩⟩ <;> rcases kw with _ | ⟨k, kw⟩ <;> first | (simp [mE] at h; done) | skip
        cases y with
        | Call r l2 kw2 pos2 =>
          cases r with
          | Name r q2 =>
            rcases l2 with _ | ⟨z, _ | ⟨z2, l2⟩⟩ <;> rcases kw2 with _ | ⟨k2, kw2⟩ <;> first | (simp [mE] at h; done) | skip
            simp only [mE, Bool.and_eq_true, decide_eq_true_eq] at h
            obtain ⟨rfl, h1, rfl, h2, h3⟩ := h
            exact s_rgt ok h1 h2 (e_ok a X W z ok tk h3) (mE_pl h3).1
          | _ => simp [mE] at h
        | _ => simp [mE] at h
      | _ => simp [mE] at h
    | _ => simp [mE] at h
  | .revl a, X, W, x, ok, tk, h => by
    cases x with
    | Call g l kw pos =>
      cases g with
      | Name g q =>
        rcases l with _ | ⟨y, _ | ⟨y2, l⟩⟩ <;> rcases kw with _ | ⟨k, kw⟩ <;> first | (simp [mE] at h; done) | skip
        cases y with
        | Call r l2 kw2 pos2 =>
          cases r with
          | Name r q2 =>
            rcases l2 with _ | ⟨z, _ | ⟨z2, l2⟩⟩ <;> rcases kw2 with _ | ⟨k2, kw2⟩ <;> first | (simp [mE] at h; done) | skip
            simp only [mE, Bool.and_eq_true, decide_eq_true_eq] at h
            obtain ⟨rfl, h1, rfl, h2, h3⟩ := h
            exact s_revl ok h1 h2 (e_ok a X W z ok tk h3) (mE_pl h3).1
          | _ => simp [mE] at h
        | _ => simp [mE] at h
      | _ => simp [mE] at h
    | _ => simp [mE] at h
  | .slr a, X, W, x, ok, tk, h => by
    cases x with
    | Subscript y z pos =>
      cases z with
      | Slice lo hi st p3 =>
        cases lo <;> cases hi <;> cases st <;> first | (simp [mE] at h; done) | skip
        rename_i st
        cases st with
        | UnaryOp o u p2 =>
          cases o <;> first | (simp [mE] at h; done) | skip
          cases u with
          | Constant c j p1 =>
            cases c with
            | int i =>
              by_cases e : i = 1
              · subst e
                simp only [mE] at h
                exact s_slr (e_ok a X W y ok tk h)
              · simp [mE, e] at h
            | _ => simp [mE] at h
          | _ => simp [mE] at h
        | _ => simp [mE] at h
      | _ => simp [mE] at h
    | _ => simp [mE] at h
  | .srtk f e, X, W, x, ok, tk, h => by
    cases x with
    | Call g l kw pos =>
      cases g with
      | Name g q =>
        rcases l with _ | ⟨y, _ | ⟨y2, l⟩⟩ <;> rcases kw with _ | ⟨⟨ka, kv, kp⟩, _ | ⟨k2, kw⟩⟩ <;> first | (simp [mE] at h; done) | skip
        cases ka with
        | none => simp [mE] at h
        | some ka =>
          cases kv with
          | Name hn q2 =>
            simp only [mE, Bool.and_eq_true, decide_eq_true_eq] at h
            obtain ⟨rfl, h1, rfl, rfl, h3, h4, h5, h6⟩ := h
            obtain ⟨d, hd⟩ := hG.fs f h3
            exact s_srtk ok h1 h4 h5 hd (e_ok e X W y ok tk h6) (mE_pl h6).1
          | _ => simp [mE] at h
      | _ => simp [mE] at h
    | _ => simp [mE] at h
  | .srtr e, X, W, x, ok, tk, h => by
    cases x with
    | Call g l kw pos =>
      cases g with
      | Name g q =>
        rcases l with _ | ⟨y, _ | ⟨y2, l⟩⟩ <;> rcases kw with _ | ⟨⟨ka, kv, kp⟩, _ | ⟨k2, kw⟩⟩ <;> first | (simp [mE] at h; done) | skip
        cases ka with
        | none => simp [mE] at h
        | some ka =>
          cases kv with
          | Constant c j q2 =>
            cases c with
            | bool b =>
              cases b with
              | true =>
                simp only [mE, Bool.and_eq_true, decide_eq_true_eq] at h
                obtain ⟨rfl, h1, rfl, h2⟩ := h
                exact s_srtr ok h1 (e_ok e X W y ok tk h2) (mE_pl h2).1
              | false => simp [mE] at h
            | _ => simp [mE] at h
          | _ => simp [mE] at h
      | _ => simp [mE] at h
    | _ => simp [mE] at h
  | .lc elt tg it c vs, X, W, x, ok, tk, h => by
    cases x with
    | ListComp x gs s pos =>
      rcases gs with _ | ⟨⟨t, i, cs, a⟩, _ | ⟨g2, gs⟩⟩
      · simp [mE] at h
      · cases a with
        | ofNat a =>
         cases a with
         | succ a => unfold mE at h; split at h <;> first | (cases h; done) | (rename_i e; cases e; done) | skip
         | zero =>
          have h : mE G X.N X.env.scope (.lc elt tg it c vs) (.ListComp x [⟨t, i, cs, 0⟩] s pos) = true := h
          simp only [mE, Bool.and_eq_true] at h
          obtain ⟨h1, h2, h3, h4, h5, h6⟩ := h
          have own : (ownOf X.N vs).map (fun x => x.2) = vs := by unfold ownOf; rw [List.map_map]; exact List.map_id _
          have hv := tgs_all h2
          have q := pe_lc (g := lG X.K tg) (tt := lC X (callC p n) c) (te := lE X (callC p n) (fun _ _ _ _ => False) elt) ok.calm ok.nd (i_ok it X W t i ok tk h3) (blkOk_by h1)
            (fun s' H A cl fp => g_ok (ok.blk s' H s _ fp) loc_blk tg t h4)
            (fun s' H A cl fp => c_ok c (X.blk s' H s (compEnvC s cl A X.env) fp) cs (ok.blk s' H s _ fp) takes0 h5)
            (fun s' H A cl fp => e_ok elt (X.blk s' H s (compEnvC s cl A X.env) fp) _ x (ok.blk s' H s _ fp) takes0 h6) (pos := pos) (mI_fold h3 X.env)
          rw [own] at q
          refine (PE.fr q).imp fun σ H Q ⟨ds, S, E, Kk, rl, rs, k, aft, xk⟩ => ?_
          exact ⟨ds, S, E, _, rl, rs, k, fun l chk S1 J H1 k1 e1 rs1 io => tLc_ok rl rs e1 rs1 hv io aft k1, xk⟩
        | negSucc a => simp [mE] at h
      · simp [mE] at h
    | _ => simp [mE] at h
termination_by e => (sizeOf e, 0)
decreasing_by all_goals (first | decreasing_tactic | (simp_wf; omega) | (apply Prod.Lex.right; decide))
theorem t_ok : ∀ (e : Ex) (X : Cx) (W : WX) (x : Expr), Ok p n X → Takes X W → tstB e = true → mE G X.N X.env.scope e x = true → PT X x (lT X (callC p n) W e)
  | .var i, X, W, x, ok, tk, ht, h => s_tru (e_ok (.var i) X W x ok tk h) fun whole => by
      cases x with
      | UnaryOp o x pos => cases o <;> first | rfl | (simp [mE] at h; done)
      | BoolOp o x pos => simp [mE] at h
      | IfExp x y z pos => simp [mE] at h
      | Compare x y z pos => simp [mE] at h
      | _ => rfl
  | .non, X, W, x, ok, tk, ht, h => s_tru (e_ok (.non) X W x ok tk h) fun whole => by
      cases x with
      | UnaryOp o x pos => cases o <;> first | rfl | (simp [mE] at h; done)
      | BoolOp o x pos => simp [mE] at h
      | IfExp x y z pos => simp [mE] at h
      | Compare x y z pos => simp [mE] at h
      | _ => rfl
  | .bl b, X, W, x, ok, tk, ht, h => s_tru (e_ok (.bl b) X W x ok tk h) fun whole => by
      cases x with
      | UnaryOp o x pos => cases o <;> first | rfl | (simp [mE] at h; done)
      | BoolOp o x pos => simp [mE] at h
      | IfExp x y z pos => simp [mE] at h
      | Compare x y z pos => simp [mE] at h
      | _ => rfl
  | .int b, X, W, x, ok, tk, ht, h => s_tru (e_ok (.int b) X W x ok tk h) fun whole => by
      cases x with
      | UnaryOp o x pos => cases o <;> first | rfl | (simp [mE] at h; done)
      | BoolOp o x pos => simp [mE] at h
      | IfExp x y z pos => simp [mE] at h
      | Compare x y z pos => simp [mE] at h
      | _ => rfl
  | .str b, X, W, x, ok, tk, ht, h => s_tru (e_ok (.str b) X W x ok tk h) fun whole => by
      cases x with
      | UnaryOp o x pos => cases o <;> first | rfl | (simp [mE] at h; done)
      | BoolOp o x pos => simp [mE] at h
      | IfExp x y z pos => simp [mE] at h
      | Compare x y z pos => simp [mE] at h
      | _ => rfl
  | .tup es, X, W, x, ok, tk, ht, h => s_tru (e_ok (.tup es) X W x ok tk h) fun whole => by
      cases x with
      | UnaryOp o x pos => cases o <;> first | rfl | (simp [mE] at h; done)
      | BoolOp o x pos => simp [mE] at h
      | IfExp x y z pos => simp [mE] at h
      | Compare x y z pos => simp [mE] at h
      | _ => rfl
  | .lst es, X, W, x, ok, tk, ht, h => s_tru (e_ok (.lst es) X W x ok tk h) fun whole => by
      cases x with
      | UnaryOp o x pos => cases o <;> first | rfl | (simp [mE] at h; done)
      | BoolOp o x pos => simp [mE] at h
      | IfExp x y z pos => simp [mE] at h
      | Compare x y z pos => simp [mE] at h
      | _ => rfl
  | .dic0, X, W, x, ok, tk, ht, h => s_tru (e_ok (.dic0) X W x ok tk h) fun whole => by
      cases x with
      | UnaryOp o x pos => cases o <;> first | rfl | (simp [mE] at h; done)
      | BoolOp o x pos => simp [mE] at h
      | IfExp x y z pos => simp [mE] at h
      | Compare x y z pos => simp [mE] at h
      | _ => rfl
  | .bin op a b, X, W, x, ok, tk, ht, h => s_tru (e_ok (.bin op a b) X W x ok tk h) fun whole => by
      cases x with
      | UnaryOp o x pos => cases o <;> first | rfl | (simp [mE] at h; done)
      | BoolOp o x pos => simp [mE] at h
      | IfExp x y z pos => simp [mE] at h
      | Compare x y z pos => simp [mE] at h
      | _ => rfl
  | .neg a, X, W, x, ok, tk, ht, h => s_tru (e_ok (.neg a) X W x ok tk h) fun whole => by
      cases x with
      | UnaryOp o x pos => cases o <;> first | rfl | (simp [mE] at h; done)
      | BoolOp o x pos => simp [mE] at h
      | IfExp x y z pos => simp [mE] at h
      | Compare x y z pos => simp [mE] at h
      | _ => rfl
  | .inv a, X, W, x, ok, tk, ht, h => s_tru (e_ok (.inv a) X W x ok tk h) fun whole => by
      cases x with
      | UnaryOp o x pos => cases o <;> first | rfl | (simp [mE] at h; done)
      | BoolOp o x pos => simp [mE] at h
      | IfExp x y z pos => simp [mE] at h
      | Compare x y z pos => simp [mE] at h
      | _ => rfl
  | .idx a i, X, W, x, ok, tk, ht, h => s_tru (e_ok (.idx a i) X W x ok tk h) fun whole => by
      cases x with
      | UnaryOp o x pos => cases o <;> first | rfl | (simp [mE] at h; done)
      | BoolOp o x pos => simp [mE] at h
      | IfExp x y z pos => simp [mE] at h
      | Compare x y z pos => simp [mE] at h
      | _ => rfl
  | .slc a lo hi, X, W, x, ok, tk, ht, h => s_tru (e_ok (.slc a lo hi) X W x ok tk h) fun whole => by
      cases x with
      | UnaryOp o x pos => cases o <;> first | rfl | (simp [mE] at h; done)
      | BoolOp o x pos => simp [mE] at h
      | IfExp x y z pos => simp [mE] at h
      | Compare x y z pos => simp [mE] at h
      | _ => rfl
  | .call f es, X, W, x, ok, tk, ht, h => s_tru (e_ok (.call f es) X W x ok tk h) fun whole => by
      cases x with
      | UnaryOp o x pos => cases o <;> first | rfl | (simp [mE] at h; done)
      | BoolOp o x pos => simp [mE] at h
      | IfExp x y z pos => simp [mE] at h
      | Compare x y z pos => simp [mE] at h
      | _ => rfl
  | .blt f es, X, W, x, ok, tk, ht, h => s_tru (e_ok (.blt f es) X W x ok tk h) fun whole => by
      cases x with
      | UnaryOp o x pos => cases o <;> first | rfl | (simp [mE] at h; done)
      | BoolOp o x pos => simp [mE] at h
      | IfExp x y z pos => simp [mE] at h
      | Compare x y z pos => simp [mE] at h
      | _ => rfl
  | .isi a t, X, W, x, ok, tk, ht, h => s_tru (e_ok (.isi a t) X W x ok tk h) fun whole => by
      cases x with
      | UnaryOp o x pos => cases o <;> first | rfl | (simp [mE] at h; done)
      | BoolOp o x pos => simp [mE] at h
      | IfExp x y z pos => simp [mE] at h
      | Compare x y z pos => simp [mE] at h
      | _ => rfl
  | .mth m o es, X, W, x, ok, tk, ht, h => s_tru (e_ok (.mth m o es) X W x ok tk h) fun whole => by
      cases x with
      | UnaryOp o x pos => cases m <;> cases es <;> simp [mE] at h
      | BoolOp o x pos => cases m <;> cases es <;> simp [mE] at h
      | IfExp x y z pos => cases m <;> cases es <;> simp [mE] at h
      | Compare x y z pos => cases m <;> cases es <;> simp [mE] at h
      | _ => rfl
  | .lc elt tg it c vs, X, W, x, ok, tk, ht, h => s_tru (e_ok (.lc elt tg it c vs) X W x ok tk h) fun whole => by
      cases x with
      | UnaryOp o x pos => cases o <;> first | rfl | (simp [mE] at h; done)
      | BoolOp o x pos => simp [mE] at h
      | IfExp x y z pos => simp [mE] at h
      | Compare x y z pos => simp [mE] at h
      | _ => rfl
  | .dic1 a b, X, W, x, ok, tk, ht, h => s_tru (e_ok (.dic1 a b) X W x ok tk h) fun whole => by
      cases x with
      | UnaryOp o x pos => cases o <;> first | rfl | (simp [mE] at h; done)
      | BoolOp o x pos => simp [mE] at h
      | IfExp x y z pos => simp [mE] at h
      | Compare x y z pos => simp [mE] at h
      | _ => rfl
  | .cst nm d, X, W, x, ok, tk, ht, h => s_tru (e_ok (.cst nm d) X W x ok tk h) fun whole => by
      cases x with
      | UnaryOp o x pos => cases o <;> first | rfl | (simp [mE] at h; done)
      | BoolOp o x pos => simp [mE] at h
      | IfExp x y z pos => simp [mE] at h
      | Compare x y z pos => simp [mE] at h
      | _ => rfl
  | .cix nm kv i, X, W, x, ok, tk, ht, h => s_tru (e_ok (.cix nm kv i) X W x ok tk h) fun whole => by
      cases x with
      | UnaryOp o x pos => cases o <;> first | rfl | (simp [mE] at h; done)
      | BoolOp o x pos => simp [mE] at h
      | IfExp x y z pos => simp [mE] at h
      | Compare x y z pos => simp [mE] at h
      | _ => rfl
  | .rgl a, X, W, x, ok, tk, ht, h => s_tru (e_ok (.rgl a) X W x ok tk h) fun whole => by
      cases x with
      | UnaryOp o x pos => cases o <;> first | rfl | (simp [mE] at h; done)
      | BoolOp o x pos => simp [mE] at h
      | IfExp x y z pos => simp [mE] at h
      | Compare x y z pos => simp [mE] at h
      | _ => rfl
  | .rgt a, X, W, x, ok, tk, ht, h => s_tru (e_ok (.rgt a) X W x ok tk h) fun whole => by
      cases x with
      | UnaryOp o x pos => cases o <;> first | rfl | (simp [mE] at h; done)
      | BoolOp o x pos => simp [mE] at h
      | IfExp x y z pos => simp [mE] at h
      | Compare x y z pos => simp [mE] at h
      | _ => rfl
  | .revl a, X, W, x, ok, tk, ht, h => s_tru (e_ok (.revl a) X W x ok tk h) fun whole => by
      cases x with
      | UnaryOp o x pos => cases o <;> first | rfl | (simp [mE] at h; done)
      | BoolOp o x pos => simp [mE] at h
      | IfExp x y z pos => simp [mE] at h
      | Compare x y z pos => simp [mE] at h
      | _ => rfl
  | .slr a, X, W, x, ok, tk, ht, h => s_tru (e_ok (.slr a) X W x ok tk h) fun whole => by
      cases x with
      | UnaryOp o x pos => cases o <;> first | rfl | (simp [mE] at h; done)
      | BoolOp o x pos => simp [mE] at h
      | IfExp x y z pos => simp [mE] at h
      | Compare x y z pos => simp [mE] at h
      | _ => rfl
  | .srtr e, X, W, x, ok, tk, ht, h => s_tru (e_ok (.srtr e) X W x ok tk h) fun whole => by
      cases x with
      | UnaryOp o x pos => cases o <;> first | rfl | (simp [mE] at h; done)
      | BoolOp o x pos => simp [mE] at h
      | IfExp x y z pos => simp [mE] at h
      | Compare x y z pos => simp [mE] at h
      | _ => rfl
  | .srtk f e, X, W, x, ok, tk, ht, h => s_tru (e_ok (.srtk f e) X W x ok tk h) fun whole => by
      cases x with
      | UnaryOp o x pos => cases o <;> first | rfl | (simp [mE] at h; done)
      | BoolOp o x pos => simp [mE] at h
      | IfExp x y z pos => simp [mE] at h
      | Compare x y z pos => simp [mE] at h
      | _ => rfl
  | .not a, X, W, x, ok, tk, ht, h => by
    cases x with
    | UnaryOp o x pos =>
      cases o with
      | Not =>
        simp only [mE] at h
        simp only [tstB] at ht
        exact t_not (t_ok a X W x ok tk ht h)
      | _ => simp [mE] at h
    | _ => simp [mE] at h
  | .cmp op a b, X, W, x, ok, tk, ht, h => by
    cases x with
    | Compare x os ys pos =>
      rcases os with _ | ⟨o, _ | ⟨o2, os⟩⟩ <;> rcases ys with _ | ⟨y, _ | ⟨y2, ys⟩⟩ <;> first | (simp [mE] at h; done) | skip
      simp only [mE, Bool.and_eq_true, decide_eq_true_eq] at h
      obtain ⟨rfl, h1, h2⟩ := h
      exact t_cmp ok.hu (e_ok a X W x ok tk h1) (e_ok b X W y ok tk h2) (mE_pl h2).2.2
    | _ => simp [mE] at h
  | .chn o1 o2 a b c, X, W, x, ok, tk, ht, h => by
    cases x with
    | Compare x os ys pos =>
      rcases os with _ | ⟨o, _ | ⟨o', _ | ⟨o3, os⟩⟩⟩ <;> rcases ys with _ | ⟨y, _ | ⟨y2, _ | ⟨y3, ys⟩⟩⟩ <;> first | (simp [mE] at h; done) | skip
      simp only [mE, Bool.and_eq_true, decide_eq_true_eq] at h
      obtain ⟨rfl, rfl, h1, h2, h3⟩ := h
      exact t_chn ok.hu (e_ok a X W x ok tk h1) (e_ok b X W y ok tk h2) (e_ok c X W y2 ok tk h3) (mE_pl h3).2.2
    | _ => simp [mE] at h
  | .ite c a b, X, W, x, ok, tk, ht, h => by simp [tstB] at ht
  | .and a b, X, W, x, ok, tk, ht, h => by
    cases x with
    | BoolOp o xs pos =>
      cases o with
      | And => exact (w_ok (.and a b) X W .And xs pos ok tk ht h).pt
      | Or => simp [mE] at h
    | _ => simp [mE] at h
  | .or a b, X, W, x, ok, tk, ht, h => by
    cases x with
    | BoolOp o xs pos =>
      cases o with
      | Or => exact (w_ok (.or a b) X W .Or xs pos ok tk ht h).pt
      | And => simp [mE] at h
    | _ => simp [mE] at h
termination_by e => (sizeOf e, 2)
decreasing_by all_goals (first | decreasing_tactic | (simp_wf; omega) | (apply Prod.Lex.right; decide))
theorem w_ok : ∀ (e : Ex) (X : Cx) (W : WX) (o : BoolOp) (xs : List Expr) (pos : Pos), Ok p n X → Takes X W → tstB e = true → mE G X.N X.env.scope e (.BoolOp o xs pos) = true → PW X (.BoolOp o xs pos) (lT X (callC p n) W e)
  | .and a b, X, W, bo, xs, pos, ok, tk, ht, h => by
    simp only [tstB, Bool.and_eq_true] at ht
    cases bo with
    | And =>
      rcases xs with _ | ⟨x, _ | ⟨y, _ | ⟨z, xs⟩⟩⟩ <;> first | (simp [mE] at h; done) | skip
      · simp only [mE, Bool.and_eq_true] at h
        exact t_and (t_ok a X W x ok tk ht.1 h.1) (pw_and1 (t_ok b X W y ok tk ht.2 h.2))
      · simp only [mE, Bool.and_eq_true] at h
        exact t_and (t_ok a X W x ok tk ht.1 h.1) (w_ok b X W .And _ pos ok tk ht.2 h.2)
    | Or => simp [mE] at h
  | .or a b, X, W, bo, xs, pos, ok, tk, ht, h => by
    simp only [tstB, Bool.and_eq_true] at ht
    cases bo with
    | Or =>
      rcases xs with _ | ⟨x, _ | ⟨y, _ | ⟨z, xs⟩⟩⟩ <;> first | (simp [mE] at h; done) | skip
      · simp only [mE, Bool.and_eq_true] at h
        exact t_or (t_ok a X W x ok tk ht.1 h.1) (pw_or1 (t_ok b X W y ok tk ht.2 h.2))
      · simp only [mE, Bool.and_eq_true] at h
        exact t_or (t_ok a X W x ok tk ht.1 h.1) (w_ok b X W .Or _ pos ok tk ht.2 h.2)
    | And => simp [mE] at h
  | .dic1 a b, X, W, bo, xs, pos, ok, tk, ht, h => by simp [mE] at h
  | .rgl a, X, W, bo, xs, pos, ok, tk, ht, h => by simp [mE] at h
  | .rgt a, X, W, bo, xs, pos, ok, tk, ht, h => by simp [mE] at h
  | .revl a, X, W, bo, xs, pos, ok, tk, ht, h => by simp [mE] at h
  | .slr a, X, W, bo, xs, pos, ok, tk, ht, h => by simp [mE] at h
  | .cst nm d, X, W, bo, xs, pos, ok, tk, ht, h => by simp [mE] at h
  | .cix nm kv i, X, W, bo, xs, pos, ok, tk, ht, h => by simp [mE] at h
  | .srtk f e, X, W, bo, xs, pos, ok, tk, ht, h => by simp [mE] at h
  | .srtr e, X, W, bo, xs, pos, ok, tk, ht, h => by simp [mE] at h
  | .var i, X, W, bo, xs, pos, ok, tk, ht, h => by simp [mE] at h
  | .non, X, W, bo, xs, pos, ok, tk, ht, h => by simp [mE] at h
  | .bl b, X, W, bo, xs, pos, ok, tk, ht, h => by simp [mE] at h
  | .int b, X, W, bo, xs, pos, ok, tk, ht, h => by simp [mE] at h
  | .str b, X, W, bo, xs, pos, ok, tk, ht, h => by simp [mE] at h
  | .tup es, X, W, bo, xs, pos, ok, tk, ht, h => by simp [mE] at h
  | .lst es, X, W, bo, xs, pos, ok, tk, ht, h => by simp [mE] at h
  | .dic0, X, W, bo, xs, pos, ok, tk, ht, h => by simp [mE] at h
  | .bin op a b, X, W, bo, xs, pos, ok, tk, ht, h => by simp [mE] at h
  | .neg a, X, W, bo, xs, pos, ok, tk, ht, h => by simp [mE] at h
  | .inv a, X, W, bo, xs, pos, ok, tk, ht, h => by simp [mE] at h
  | .idx a i, X, W, bo, xs, pos, ok, tk, ht, h => by simp [mE] at h
  | .slc a lo hi, X, W, bo, xs, pos, ok, tk, ht, h => by simp [mE] at h
  | .call f es, X, W, bo, xs, pos, ok, tk, ht, h => by simp [mE] at h
  | .blt f es, X, W, bo, xs, pos, ok, tk, ht, h => by simp [mE] at h
  | .isi a t, X, W, bo, xs, pos, ok, tk, ht, h => by simp [mE] at h
  | .mth m o es, X, W, bo, xs, pos, ok, tk, ht, h => by cases m <;> cases es <;> simp [mE] at h
  | .lc elt tg it c vs, X, W, bo, xs, pos, ok, tk, ht, h => by simp [mE] at h
  | .not a, X, W, bo, xs, pos, ok, tk, ht, h => by simp [mE] at h
  | .cmp op a b, X, W, bo, xs, pos, ok, tk, ht, h => by simp [mE] at h
  | .chn o1 o2 a b c, X, W, bo, xs, pos, ok, tk, ht, h => by simp [mE] at h
  | .ite c a b, X, W, bo, xs, pos, ok, tk, ht, h => by simp [mE] at h
termination_by e => (sizeOf e, 1)
decreasing_by all_goals (first | decreasing_tactic | (simp_wf; omega) | (apply Prod.Lex.right; decide))
theorem es_ok : ∀ (e : Exs) (X : Cx) (W : WX) (x : List Expr), Ok p n X → Takes X W → mEs G X.N X.env.scope e x = true → PA X x (lEs X (callC p n) W e)
  | .nil, X, W, x, ok, tk, h => by
    cases x with
    | nil => exact s_nil
    | cons _ _ => simp [mEs] at h
  | .cons e es, X, W, x, ok, tk, h => by
    cases x with
    | nil => simp [mEs] at h
    | cons x l =>
      simp only [mEs, Bool.and_eq_true] at h
      exact s_cons (e_ok e X W x ok tk h.1) (es_ok es X W l ok tk h.2) (mE_pl h.1).1
termination_by e => (sizeOf e, 0)
decreasing_by all_goals (first | decreasing_tactic | (simp_wf; omega) | (apply Prod.Lex.right; decide))
theorem o_ok : ∀ (e : Oe) (X : Cx) (W : WX) (x : Option Expr), Ok p n X → Takes X W → mO G X.N X.env.scope e x = true → PO X x (lO X (callC p n) W e)
  | .no, X, W, x, ok, tk, h => by
    cases x with
    | none => exact s_no
    | some _ => simp [mO] at h
  | .yes e, X, W, x, ok, tk, h => by
    cases x with
    | none => simp [mO] at h
    | some x =>
      simp only [mO] at h
      exact s_yes (e_ok e X W x ok tk h)
termination_by e => (sizeOf e, 0)
decreasing_by all_goals (first | decreasing_tactic | (simp_wf; omega) | (apply Prod.Lex.right; decide))
theorem c_ok : ∀ (e : Oe) (X : Cx) (x : List Expr), Ok p n X → Takes X (fun _ _ _ _ => False) → mC G X.N X.env.scope e x = true → PTs X x (lC X (callC p n) e)
  | .no, X, x, ok, tk, h => by
    cases x with
    | nil => exact ⟨fun pins s σ H Q I ⟨ds, S, Kk, rl, rs, k, aft⟩ => pts_nil.run pins s σ H Q I (aft _ S H k Ext.refl rs)⟩
    | cons _ _ => simp [mC] at h
  | .yes e, X, x, ok, tk, h => by
    rcases x with _ | ⟨x, _ | ⟨y, l⟩⟩
    · simp [mC] at h
    · simp only [mC, Bool.and_eq_true] at h
      refine ⟨fun pins s σ H Q I ⟨ds, S, Kk, rl, rs, k, aft⟩ => (pts_one (t_ok e X _ x ok tk h.2 h.1)).run pins s σ H Q I ?_⟩
      exact ⟨ds, S, noX, _, rl, rs, k, fun d S1 H1 ⟨b, eb, k1⟩ e1 rs1 => ⟨b, eb, aft b S1 H1 k1 e1 rs1⟩, fun _ _ _ _ _ z => z.elim⟩
    · simp [mC] at h
termination_by e => (sizeOf e, 0)
decreasing_by all_goals (first | decreasing_tactic | (simp_wf; omega) | (apply Prod.Lex.right; decide))
theorem i_ok : ∀ (e : It) (X : Cx) (W : WX) (t x : Expr), Ok p n X → Takes X W → mI G X.N X.env.scope e t x = true → PI X t x (lI X (callC p n) W e)
  | .val e, X, W, t, x, ok, tk, h => by
    simp only [mI, Bool.and_eq_true] at h
    exact i_val (e_ok e X W x ok tk h.1)
  | .rg1 a, X, W, t, x, ok, tk, h => by
    cases x with
    | Call g l kw pos =>
      cases g with
      | Name g q =>
        rcases l with _ | ⟨x, _ | ⟨y, l⟩⟩ <;> rcases kw with _ | ⟨k, kw⟩ <;> first | (simp [mI] at h; done) | skip
        simp only [mI, Bool.and_eq_true, decide_eq_true_eq] at h
        obtain ⟨rfl, h1, h2⟩ := h
        exact i_rg1 ok h1 (e_ok a X W x ok tk h2) (mE_pl h2).1
      | _ => simp [mI] at h
    | _ => simp [mI] at h
  | .rg2 a b, X, W, t, x, ok, tk, h => by
    cases x with
    | Call g l kw pos =>
      cases g with
      | Name g q =>
        rcases l with _ | ⟨x, _ | ⟨y, _ | ⟨z, l⟩⟩⟩ <;> rcases kw with _ | ⟨k, kw⟩ <;> first | (simp [mI] at h; done) | skip
        simp only [mI, Bool.and_eq_true, decide_eq_true_eq] at h
        obtain ⟨rfl, h1, h2, h3⟩ := h
        exact i_rg2 ok h1 (e_ok a X W x ok tk h2) (e_ok b X W y ok tk h3) (mE_pl h2).1 (mE_pl h3).1
      | _ => simp [mI] at h
    | _ => simp [mI] at h
  | .rgd a b, X, W, t, x, ok, tk, h => by
    cases x with
    | Call g l kw pos =>
      cases g with
      | Name g q =>
        rcases l with _ | ⟨x, _ | ⟨y, _ | ⟨z, _ | ⟨z2, l⟩⟩⟩⟩ <;> rcases kw with _ | ⟨k, kw⟩ <;> first | (simp [mI] at h; done) | skip
        simp only [mI, Bool.and_eq_true, decide_eq_true_eq] at h
        obtain ⟨hz, rfl, h1, h2, h3⟩ := h
        cases z with
        | UnaryOp o z p1 =>
          cases o with
          | USub =>
            cases z with
            | Constant c j p2 =>
              cases c with
              | int v =>
                have hv : v = 1 := of_decide_eq_true hz
                subst hv
                exact i_rgd ok h1 (e_ok a X W x ok tk h2) (e_ok b X W y ok tk h3) (mE_pl h2).1 (mE_pl h3).1
              | _ => cases hz
            | _ => cases hz
          | _ => cases hz
        | _ => cases hz
      | _ => simp [mI] at h
    | _ => simp [mI] at h
  | .enum a, X, W, t, x, ok, tk, h => by
    cases t with
    | Tuple el kk tp =>
      cases x with
      | Call g l kw pos =>
        cases g with
        | Name g q =>
          rcases l with _ | ⟨x, _ | ⟨y, l⟩⟩ <;> rcases kw with _ | ⟨k, kw⟩ <;> first | (simp [mI] at h; done) | skip
          simp only [mI, Bool.and_eq_true, decide_eq_true_eq] at h
          obtain ⟨rfl, h1, h2⟩ := h
          exact i_enum ok h1 (e_ok a X W x ok tk h2) (mE_pl h2).1
        | _ => simp [mI] at h
      | _ => simp [mI] at h
    | _ => simp [mI] at h
  | .zip a b, X, W, t, x, ok, tk, h => by
    cases t with
    | Tuple el kk tp =>
      cases x with
      | Call g l kw pos =>
        cases g with
        | Name g q =>
          rcases l with _ | ⟨x, _ | ⟨y, _ | ⟨z, l⟩⟩⟩ <;> rcases kw with _ | ⟨k, kw⟩ <;> first | (simp [mI] at h; done) | skip
          simp only [mI, Bool.and_eq_true, decide_eq_true_eq] at h
          obtain ⟨rfl, h1, h2, h3⟩ := h
          exact i_zip ok h1 (e_ok a X W x ok tk h2) (e_ok b X W y ok tk h3) (mE_pl h2).1 (mE_pl h3).1
        | _ => simp [mI] at h
      | _ => simp [mI] at h
    | _ => simp [mI] at h
  | .rev a, X, W, t, x, ok, tk, h => by
    cases x with
    | Call g l kw pos =>
      cases g with
      | Name g q =>
        rcases l with _ | ⟨x, _ | ⟨y, l⟩⟩ <;> rcases kw with _ | ⟨k, kw⟩ <;> first | (simp [mI] at h; done) | skip
        simp only [mI, Bool.and_eq_true, decide_eq_true_eq] at h
        obtain ⟨rfl, h1, h2⟩ := h
        exact i_rev ok h1 (e_ok a X W x ok tk h2) (mE_pl h2).1
      | _ => simp [mI] at h
    | _ => simp [mI] at h
termination_by e => (sizeOf e, 0)
decreasing_by all_goals (first | decreasing_tactic | (simp_wf; omega) | (apply Prod.Lex.right; decide))
end
end
end Ev
set_option Elab.async false
set_option linter.all false
set_option maxRecDepth 100000
set_option maxHeartbeats 1000000
/-! EvC5: statements. -/
namespace Ev
open PySem PySem.Spec PyProof.Rows L2

/-! ### op= -/
def rAug (K : PySem.W.Frag) (op : Bop) : R2 := fun x y H Q => ∃ a b S Kk, RV K H a x ∧ RV K H b y ∧ RepS K S H ∧ augW op a b S Kk ∧ Aft K S H Kk Q
section
variable {X : Cx}
theorem imulX : OpR X (inplaceOp .Mult) (rI CMulX fun a b => .int (a * b)) := opI fun _ _ _ _ _ _ _ h k => imul_int k h.ok
theorem op_aug (op : Bop) : OpR X (inplaceOp (bopOf op)) (rAug X.K op) := by
  intro pins s σ H x y v u Q I rx ry ⟨a, b, S, Kk, ra, rb, rs, h, aft⟩
  cases ra with
  | int i =>
    cases rb with
    | int j =>
      obtain ⟨hp, h⟩ := h
      cases op with
      | add => exact iop_add pins s σ H _ _ v u Q I rx ry ⟨i, j, rfl, rfl, aft.self rs h (.int _)⟩
      | sub => exact iop_sub pins s σ H _ _ v u Q I rx ry ⟨i, j, rfl, rfl, aft.self rs h (.int _)⟩
      | mul => exact imulX pins s σ H _ _ v u Q I rx ry ⟨i, j, rfl, rfl, mulOk_ok h.1, aft.self rs h.2 (.int _)⟩
      | fdiv => exact iop_fdivW pins s σ H _ _ v u Q I rx ry ⟨i, j, rfl, rfl, h.1, aft.self rs h.2 (.int _)⟩
      | mod => exact iop_mod pins s σ H _ _ v u Q I rx ry ⟨i, j, rfl, rfl, h.1, aft.self rs h.2 (.int _)⟩
      | pow => exact absurd rfl hp
      | shl => exact iop_shl pins s σ H _ _ v u Q I rx ry ⟨i, j, rfl, rfl, h.1, aft.self rs h.2 (.int _)⟩
      | shr => exact iop_shr pins s σ H _ _ v u Q I rx ry ⟨i, j, rfl, rfl, h.1, aft.self rs h.2 (.int _)⟩
      | and => exact iop_and pins s σ H _ _ v u Q I rx ry ⟨i, j, rfl, rfl, aft.self rs h (by rw [band_eq]; exact .int _)⟩
      | or => exact iop_or pins s σ H _ _ v u Q I rx ry ⟨i, j, rfl, rfl, aft.self rs h (by rw [bor_eq]; exact .int _)⟩
      | xor => exact iop_xor pins s σ H _ _ v u Q I rx ry ⟨i, j, rfl, rfl, aft.self rs h (by rw [bxor_eq]; exact .int _)⟩
    | _ => exact h.elim
  | str z =>
    cases rb with
    | str t =>
      obtain ⟨rfl, hz, k⟩ := h
      exact iop_add_str pins s σ H _ _ v u Q I rx ry ⟨z, t, rfl, rfl, by rw [← line_eq]; exact hz, aft.self rs k (.str _)⟩
    | _ => exact h.elim
  | ref m =>
    cases rb with
    | ref n =>
      obtain ⟨rfl, l, r, hl, hr, hz, k⟩ := h
      obtain ⟨xs, hx, rl⟩ := lst_of rs hl
      obtain ⟨ys, hy, rr⟩ := lst_of rs hr
      exact iop_ext pins s σ H _ _ v u Q I rx ry ⟨m, n, xs, ys, rfl, rfl, hx, hy, by rw [← line_eq, ← rl.len, ← rr.len]; exact hz, aft.wrote rs hl hx k (rl.app rr) (.ref m)⟩
    | _ => exact h.elim
  | _ => exact h.elim
end

/-! ### which stores a tuple's assignment swaps -/
def isLc : Expr → Bool
  | .ListComp _ _ _ _ => true
  | .SetComp _ _ _ _ => true
  | .DictComp _ _ _ _ _ => true
  | _ => false
def isTupE : Expr → Bool
  | .Tuple _ _ _ => true
  | _ => false
theorem sw_no {v : Expr} (h : isLc v = false) (t : Option Expr) (l : Nat) (env : Env) : swapsWith v t l env = pure false := by
  cases v <;> first | rfl | cases h
theorem sw_sub {v o i : Expr} {q : Pos} (l : Nat) (env : Env) : swapsWith v (some (.Subscript o i q)) l env = pure false := by
  cases v <;> rfl
theorem ss_no {v : Expr} (h : isTupE v = false) (t : List Expr) (env : Env) : swappedStores t v env = pure none := by
  cases v with
  | Tuple _ _ _ => cases h
  | _ => rcases t with _ | ⟨t, _ | ⟨t2, t3⟩⟩ <;> first | rfl | (cases t <;> rfl)
def isNm : Expr → Bool
  | .Name _ _ => true
  | _ => false
theorem ss_nm {t v : Expr} (h : isNm t = true) (env : Env) : swappedStores [t] v env = pure none := by
  cases t <;> first | (cases h; done) | skip
  cases v <;> rfl
theorem ss_sub {o i v : Expr} {q : Pos} (env : Env) : swappedStores [.Subscript o i q] v env = pure none := by cases v <;> rfl
/-- the names stored -/
def swNames (sc : Scope) (ts : List Expr) : List Str := ts.filterMap fun
  | .Name id pos => if sc.names.lookup id == some .local && pos.line == (ts.head?.map (·.pos.line)).getD 0 then some id else none
  | _ => none
def swN (sc : Scope) (ts vs : List Expr) : Bool :=
  (!(ts.length == 2 || ts.length == 3) || vs.length != ts.length) || ((swNames sc ts).length != ts.length || (swNames sc ts).eraseDups.length != (swNames sc ts).length) || vs.all (foldedForSure 8)
theorem ss_eq {ts vs : List Expr} {k k2 : Nat} {p p2 : Pos} {env : Env} : swappedStores [.Tuple ts k p] (.Tuple vs k2 p2) env =
    (if (!(ts.length == 2 || ts.length == 3) || vs.length != ts.length || env.blockKind != .function) = true then pure none
    else if (vs.any fun | .Starred .. => true | _ => false) = true then pure none
    else if ((swNames env.scope ts).length != ts.length || (swNames env.scope ts).eraseDups.length != (swNames env.scope ts).length) = true then pure none
    else if vs.all (foldedForSure 8) = true then pure none
    else if vs.all (constantsAlone 8) = true then (do
      unsupported "assign.tuple-of-constant-expressions:order-of-the-stores"
      pure (some (swNames env.scope ts)))
    else pure (some (swNames env.scope ts))) := rfl
theorem ss_none {ts vs : List Expr} {k k2 : Nat} {p p2 : Pos} {env : Env} (h : swN env.scope ts vs = true) : swappedStores [.Tuple ts k p] (.Tuple vs k2 p2) env = pure none := by
  unfold swN at h
  rw [ss_eq]
  by_cases c1 : (!(ts.length == 2 || ts.length == 3) || vs.length != ts.length || env.blockKind != .function) = true
  · rw [if_pos c1]
  rw [if_neg c1]
  by_cases c2 : (vs.any fun | .Starred .. => true | _ => false) = true
  · rw [if_pos c2]
  rw [if_neg c2]
  rw [Bool.or_eq_true, Bool.or_eq_true] at h
  rcases h with (h | h) | h
  · rw [h] at c1
    exact absurd rfl c1
  · rw [if_pos h]
  · rw [if_pos h, ite_self]
def swS (sc : Scope) (ts vs : List Expr) (ns : List Str) : Bool :=
  (match sc.kind with | .function => true | _ => false) && ((ts.length == 2 || ts.length == 3) && ((vs.length == ts.length) && ((vs.all fun e => !isStar e) && (decide (swNames sc ts = ns) && (ns.length == ts.length && (ns.eraseDups.length == ns.length && (!vs.all (foldedForSure 8) && !vs.all (constantsAlone 8))))))))
theorem ss_some {ts vs : List Expr} {k k2 : Nat} {p p2 : Pos} {env : Env} {ns : List Str} (h : swS env.scope ts vs ns = true) : swappedStores [.Tuple ts k p] (.Tuple vs k2 p2) env = pure (some ns) := by
  unfold swS at h
  simp only [Bool.and_eq_true, decide_eq_true_eq, Bool.not_eq_true'] at h
  obtain ⟨hk, h1, h2, h3, hn, h4, h5, h6, h7⟩ := h
  have hb : env.blockKind = .function := by
    unfold Env.blockKind
    cases e : env.scope.kind <;> rw [e] at hk <;> first | rfl | cases hk
  have h4' := eq_of_beq h4
  have h5' := eq_of_beq h5
  rw [ss_eq, if_neg (by rw [hb, h1, eq_of_beq h2]; simp), if_neg (by
    intro c
    rw [List.any_eq_true] at c
    obtain ⟨e, he, c⟩ := c
    have q := List.all_eq_true.1 h3 e he
    cases e <;> first | (cases c; done) | (cases q; done)), hn, if_neg (by rw [h4', ← h4', h5']; simp), if_neg (by rw [h6]; decide), if_neg (by rw [h7]; decide)]
end Ev
set_option Elab.async false
set_option linter.all false
set_option maxRecDepth 100000
set_option maxHeartbeats 4000000
/-! EvXi: an own exception's __init__ that says super().__init__(..). -/
namespace Ev
open PySem PySem.Spec PyProof.Rows L2 NdefX

abbrev clsN : Str := "__class__"
abbrev supO (D x C : Addr) : Obj := { cls := .type "super", dict := none, data := .fields #[.ref D, .ref x, .ref C], slots := #[] }
/-- what K holds of an own exception class whose __init__ stands over ValueError's -/
structure XcF (P : Program) (K : PySem.W.Frag) (C fI cd cc : Addr) (qual : Str) (params : Arguments) (body : List Stmt) (scope : Scope) : Prop where
  T : OexC K C
  lk : ∃ oc od osl doc pm ctv, K.lookup fI = some ⟨oc, od, .func (PySem.W.fnX "__init__" qual params body scope [("__class__", cc)] .none .none doc pm none (.ref cd) ctv), osl⟩
  hcd : PySem.W.codeIn K (.ref cd) qual = true
  code : ∃ ccl cdd ccs vs file tf, K.lookup cd = some ⟨ccl, cdd, .fields vs, ccs⟩ ∧ vs[2]? = some (.str file tf) ∧ ((P.main.file : Str) == file) = true
  cell : ∃ cl cld csl, K.lookup cc = some ⟨cl, cld, .cell (some (.ref C)), csl⟩
  sub : PySem.W.mroIn K C (.ref C) = some true
  up : PySem.W.ks_superIn K C C "__init__" = some (some (.builtin "ValueError.__init__"))
  isV : PySem.W.subIn K (.ref C) (.type "ValueError") = some true
  op : PySem.W.nsIn K cStatics "thirdparty.any" = some none
  top : (P.main.scope.names.lookup ("super" : Str)).isSome = false
  hat : True
section
variable {X : Cx} {pins : List (Addr × Obj)} {σ : L2.St} {H : Hp} {s : Shared}
/-- a new object held -/
theorem _root_.L2.Inv.hold {h' : Heap} {o : Obj} {t' : Nat} (I : Inv X pins σ H s) (k : ∀ b u, s.heap.get? b = some u → h'.get? b = some u) (ho : h'.get? s.heap.objs.size = some o) (hc : ∀ v, o.data ≠ .cell v) :
    Inv X ((s.heap.objs.size, o) :: pins) σ H { s with heap := h', toks := t' } := by
  have J := I.kept (t' := t') k
  obtain ⟨f0, f1, f2, f3, f4, f5⟩ := I.fpOk (H' := H) (b := s.heap.objs.size) (Nat.le_refl _) (I.hok.fresh (Nat.le_refl _))
  refine ⟨J.ok, J.os, J.bare, J.base, J.loc, J.cell, J.free, J.freeC, fun p hp => ?_, J.hok, J.len⟩
  rcases List.mem_append.1 hp with h | h
  · exact J.pin p (List.mem_append_left _ h)
  · rcases List.mem_cons.1 h with rfl | h
    · exact ⟨ho, f0, f1, f2, hc⟩
    · exact J.pin p (List.mem_append_right _ h)
theorem _root_.L2.Inv.drop1 {q : Addr × Obj} (I : Inv X (q :: pins) σ H s) : Inv X pins σ H s :=
  ⟨I.ok, I.os, I.bare, I.base, I.loc, I.cell, I.free, I.freeC, fun p hp => I.pin p (by
    rcases List.mem_append.1 hp with h | h
    · exact List.mem_append_left _ h
    · exact List.mem_append_right _ (List.mem_cons_of_mem _ h)), I.hok, I.len⟩
theorem sup_base {C fI cd cc L a : Addr} {qual : Str} {params : Arguments} {body : List Stmt} {scope : Scope} {p0 p1 : Pos} {whole : Sem Value} {ar : Arg} {Q : Value → Shared → Prop} {E : Value → Shared → Prop}
    (F : XcF X.prog X.K C fI cd cc qual params body scope) (he : X.env = PySem.W.envX qual scope L fI (.ref cd) [("__class__", cc)]) (hp : (params.posonlyargs ++ params.args).head? = some ar) (hN : X.N[0]? = some ar.arg) (hs : σ[0]? = some (some (.ref a)))
    (hks : scope.names.lookup ("super" : Str) = some .globalImplicit) (hkc : scope.names.lookup ("__class__" : Str) = some .free) (hka : scope.names.lookup ar.arg = some .local) (hk : scope.kind = .function) (hm : X.mg "super" = none)
    (ha : H a = some (exo a C none)) (I : Inv X pins σ H s) (h : ∀ so h', Inv X ((so, supO C a C) :: pins) σ H { s with heap := h' } → Q (.ref so) { s with heap := h' }) :
    PySem.wpAt (model X.prog X.w) X.A (.func body X.env) (attributeBase (.Call (.Name "super" p0) [] [] p1) "__init__" X.env whole) Q E s := by
  have KI := I.kIn
  obtain ⟨oc, od, osl, doc, pm, ctv, lk⟩ := F.lk
  obtain ⟨ccl, cdd, ccs, vs, file, tf, lc, hvs, hfile⟩ := F.code
  obtain ⟨cl, cld, csl, lcell⟩ := F.cell
  obtain ⟨nm, q, N, bs, bm, sn, sub, ab, col, dd, k0, k1, k2, k3, k5, hC, hbm⟩ := F.T.cls
  obtain ⟨t1, ho⟩ := exo_at I.hok ha
  obtain ⟨mb, b1, b2⟩ := I.mod.blt
  obtain ⟨m, hns, hlk⟩ := id I.loc
  obtain ⟨u, ru, hu⟩ := hlk 0 ar.arg (.ref a) hN hs (by rw [he]; exact .inl hka)
  have glob : X.env.globals = mainGlobals := I.ok.glob
  have blt : X.env.builtins = builtinsNs := I.ok.blt
  have hg := I.mod.glob.keeps I.bk
  have hb := b1.keeps I.bk
  rw [he] at glob blt hns hu ⊢
  have hu' : m ar.arg = some (.ref a) := by
    cases ru
    rcases hu with ⟨_, e⟩ | ⟨z, _⟩
    · exact e
    · have z : scope.names.lookup ar.arg = some .cell ∨ scope.names.lookup ar.arg = some .free := z
      rw [hka] at z
      rcases z with z | z <;> cases z
  obtain ⟨hh, g, d, t, os⟩ := s
  refine PySem.ks_wpAt_super_base (env := PySem.W.envX qual scope L fI (.ref cd) [("__class__", cc)]) hks hkc (by decide) rfl (KI _ _ lk) rfl hp rfl (KI _ _ lc) rfl hvs hfile F.top ?_
  refine PySem.W.ks_loadName_global hk hks (Calls.loadGlobal_builtin (env := PySem.W.envX qual scope L fI (.ref cd) [("__class__", cc)]) hg hm hb ((b2 "super" (by decide)).trans (show bootBuiltins "super" = some (.type "super") from by decide +kernel)) ⟨rfl, ?_⟩)
  refine wpAny_loadName_free hk hkc rfl ⟨_, KI _ _ lcell, rfl⟩ ?_
  refine wpAny_loadName_local hk hka hns hu' ?_
  refine PySem.ks_wpAny_isType_cls (KI _ _ hC) rfl ⟨rfl, ?_⟩
  refine PySem.ks_wpAny_call_super (KI _ _ hC) rfl ho rfl (fun c e => by cases e) (PySem.W.looks_mroIn KI F.sub) (fun h' e k => ?_)
  exact h _ h' (L2.Inv.hold (t' := t) I k e fun v z => by cases z)

theorem call_mw {C u a : Addr} {us : List Value} {A : Around} {Q : Value → Shared → Prop} {E : Value → Shared → Prop} (T : OexC X.K C) (I : Inv X pins σ H s) (hu : s.heap.get? u = some (PySem.W.kxs_mw "ValueError.__init__" a)) (ha : H a = some (exo a C none)) (hz : us.length ≤ sizeLine)
    (h : ∀ s', Inv X pins σ H s' → Q .none s') : wpAny (model X.prog X.w) A (call (.ref u) us) Q E s := by
  obtain ⟨nm, q, N, bs, bm, sn, sub, ab, col, dd, k0, k1, k2, k3, k5, hC, hbm⟩ := T.cls
  obtain ⟨t1, ho⟩ := exo_at I.hok ha
  have KI := I.kIn
  have fin : ∀ h' t', (∀ b o, b ≠ a → s.heap.get? b = some o → h'.get? b = some o) → h'.get? a = some ({ cls := .ref C, dict := none, data := .fields #[.ref t', .none, .none, .none, .bool false, .none] } : Obj) → Q .none { s with heap := h' } := fun h' t' k hx => by
    have J := I.write (t' := s.toks) (x := a) (e := a) (o := exo a C none) (by rw [ha]; exact True.intro) (.inl rfl) k ⟨_, hx⟩ (exo_ok hx)
    have eu : upd H a (exo a C none) = H := by
      funext b
      by_cases hb : b = a
      · rw [hb, upd_same, ha]
      · rw [upd_ne hb]
    rw [eu] at J
    exact h _ J
  obtain ⟨hh, g, d, tk, os⟩ := s
  refine wpAny_call (codeAny_of_tree ?_)
  show wpAny _ A.in1 (callAny (.ref u) ⟨us, []⟩) _ _ _
  simp only [callAny]
  refine wpAny_bind (wpAny_load hu ?_)
  simp only [PySem.W.kxs_mw, show (Value.type "method-wrapper" == Value.type "method" || Value.type "method-wrapper" == Value.type "builtin_function_or_method" || Value.type "method-wrapper" == Value.type "method-wrapper") = true by decide, if_true]
  refine PySem.W.KFB.if_so (by decide) ?_
  refine wpAny_bind (PySem.ESX.check_bound F.excBase_ValueError (KI _ _ hC) ho rfl ?_)
  refine wpAny_bind (wpAny_pure (wpAny_pure ?_))
  refine ⟨Code.quiet_builtin _ (by decide +kernel), codeAny_builtin F.excBase_ValueError.initEntry ?_⟩
  exact PySem.W.exc_init_tree (cls := .ref C) (t0 := t1) (dv := none) (c2 := .none) (c3 := .none) (b4 := .bool false) ho hz (fun h' k e' t' => fin h' _ k e')

/-- super().__init__(e) -/
theorem sup_stmt {C fI cd cc L a : Addr} {qual : Str} {params : Arguments} {body : List Stmt} {scope : Scope} {p0 p1 ap cpos epos : Pos} {ar : Arg} {e : Expr} {te : TA} {Q : Hp → Prop} {E : Value → Shared → Prop}
    (F : XcF X.prog X.K C fI cd cc qual params body scope) (he : X.env = PySem.W.envX qual scope L fI (.ref cd) [("__class__", cc)]) (hp : (params.posonlyargs ++ params.args).head? = some ar) (hN : X.N[0]? = some ar.arg) (hs : σ[0]? = some (some (.ref a)))
    (hks : scope.names.lookup ("super" : Str) = some .globalImplicit) (hkc : scope.names.lookup ("__class__" : Str) = some .free) (hka : scope.names.lookup ar.arg = some .local) (hk : scope.kind = .function) (hm : X.mg "super" = none)
    (ha : H a = some (exo a C none)) (I : Inv X pins σ H s) (hte : PA X [e] te) (hq : te σ H fun vs H1 => vs.length ≤ sizeLine ∧ H1 a = some (exo a C none) ∧ Q H1)
    (hst : starEach [e] X.env = (false, eval e X.env) :: starEach [] X.env) (hl : (ap.endLine == cpos.line) = true) :
    PySem.wpAt (model X.prog X.w) X.A (.func body X.env) (exec (.Expr (.Call (.Attribute (.Call (.Name "super" p0) [] [] p1) "__init__" ap) [e] [] cpos) epos) X.env) (fun fl s' => fl = .next ∧ ∃ H1, Inv X pins σ H1 s' ∧ Q H1) X.xe s := by
  have hev : eval (.Call (.Attribute (.Call (.Name "super" p0) [] [] p1) "__init__" ap) [e] [] cpos) X.env = (do
      let ov ← attributeBase (.Call (.Name "super" p0) [] [] p1) "__init__" X.env (eval (.Call (.Name "super" p0) [] [] p1) X.env)
      standAt ap.atName
      let (f, first) ← holding [ov] (getMethod ov "__init__" (do return (← importBound (.Call (.Name "super" p0) [] [] p1) X.env).getD true))
      callWith cpos f first (backTo cpos (starEach [e] X.env)) []) := by
    rw [arm_eval_Call]
    have hf : methodCallForm ([e].length + ([] : List Keyword).length) (backTo cpos (starEach [e] X.env)) (backToKw cpos (keywordEach [] X.env)) = true := by rw [hst]; rfl
    unfold methodCall calleeOf methodCallPos
    simp only [hf, hl, Bool.not_true, Bool.false_or, if_true, pure_bind]
    rfl
  refine PySem.ks_wpAt_Expr_any (hi := by rw [he]; unfold interactive; rw [show (PySem.W.envX qual scope L fI (Value.ref cd) [("__class__", cc)]).scope.kind = .function from hk]; rfl) (PySem.ks_wpAt_MethodCall (he := hev) (sup_base F he hp hN hs hks hkc hka hk hm ha I fun so h1 I1 => ?_))
  have KI := I1.kIn
  obtain ⟨hso, _⟩ := I1.pin (so, supO C a C) (by simp)
  obtain ⟨t1, ho⟩ := exo_at I1.hok ha
  have hup := F.up
  unfold PySem.W.ks_superIn at hup
  cases hc : PySem.W.clsIn X.K C with
  | none => rw [hc] at hup; cases hup
  | some cd' =>
    rw [hc] at hup
    have IA : PySem.W.InstAt h1 a ({ cls := .ref C, dict := none, data := .fields #[.ref t1, .none, .none, .none, .bool false, .none] } : Obj) C none := ⟨ho, rfl, rfl, trivial⟩
    refine PySem.W.kxs_getMethod PySem.W.kxs_ValueError hso (PySem.W.looks_opaque KI F.op) (l₀ := cd'.mro) (fun A Q E s k q => wpAny_bind ((PySem.W.looks_clsIn KI hc) A _ E s k (wpAny_pure q))) rfl KI hup (IA.type.andThen (PySem.W.looks_subIn KI F.isV)) (PySem.W.ks_ne KI IA hc) (by decide) ?_
    have I2 := L2.Inv.hold (t' := s.toks + 1) I1 (h' := h1.push (PySem.W.kxs_mw "ValueError.__init__" a)) (o := PySem.W.kxs_mw "ValueError.__init__" a) (fun b u z => Heap.get?_push_of_some _ z) (Heap.get?_push_at rfl rfl) fun v z => by cases z
    refine PySem.W.kxs_callWith (i := "ValueError.__init__") (x := a) (by rw [hst]; rfl) ?_
    rw [hst]
    have hrun := hte.run cpos _ _ σ H _ I2 hq
    rw [hst] at hrun
    refine PySem.Calls.evalArgs_plain (thn hrun fun us s3 hv => ?_)
    obtain ⟨vs, H1, I3, r, hz, ha1, q⟩ := hv
    obtain ⟨hu, _⟩ := I3.pin (h1.objs.size, PySem.W.kxs_mw "ValueError.__init__" a) (by simp)
    refine ⟨hu, call_mw F.T I3 hu ha1 (by show ([] ++ us).length ≤ sizeLine; rw [List.nil_append, ← r.length]; exact hz) fun s' I4 => ⟨rfl, H1, I4.drop1.drop1, q⟩⟩

end
/-- the def's names: self, its parameters, __class__ -/
theorem xinit_ok {P : Program} {w : World} {K : PySem.W.Frag} {mg : Str → Option Value} {base : Heap} {C fI cd cc : Addr} {qual : Str} {params : Arguments} {rest : List Stmt} {scope : Scope} {p0 p1 ap cpos epos : Pos} {e : Expr} {ps : List Str} {CX : CXT} {k : Nat} {fd : FuncData} {sp : Sp} {ar : Arg}
    (F : XcF P K C fI cd cc qual params (.Expr (.Call (.Attribute (.Call (.Name "super" p0) [] [] p1) "__init__" ap) [e] [] cpos) epos :: rest) scope) (S : NScope (ps ++ [clsN]) ps ["__class__"] scope) (hp : (params.posonlyargs ++ params.args).head? = some ar) (hps : ps[0]? = some ar.arg)
    (hks : scope.names.lookup ("super" : Str) = some .globalImplicit) (hm : mg "super" = none) (hl : (ap.endLine == cpos.line) = true) (hst : ∀ env, starEach [e] env = (false, eval e env) :: starEach [] env)
    (hfd : ∃ oc od osl doc pm ctv, fd = PySem.W.fnX "__init__" qual params (.Expr (.Call (.Attribute (.Call (.Name "super" p0) [] [] p1) "__init__" ap) [e] [] cpos) epos :: rest) scope [("__class__", cc)] .none .none doc pm none (.ref cd) ctv ∧ K.lookup fI = some ⟨oc, od, .func fd, osl⟩)
    (len : ∀ vs H Q E, sp vs H Q E → vs.length = ps.length)
    (hbody : ∀ (L : Addr) (A : Around) (outer : List Env) (s : Shared) (H : Hp) (vs : List V) (Q : VK) (E : L2.XK), Room k (A.deeper (PySem.W.envX qual scope s.heap.objs.size fI (.ref cd) [("__class__", cc)])) → sp vs H Q E →
      ∃ a te t, vs[0]? = some (.ref a) ∧ H a = some (exo a C none) ∧ PA (ncx CX P w K mg base (ps ++ [clsN]) ⟨"__init__", qual, params, .Expr (.Call (.Attribute (.Call (.Name "super" p0) [] [] p1) "__init__" ap) [e] [] cpos) epos :: rest, scope, [("__class__", cc)], cd⟩ fI A outer s H E) [e] te ∧
        PSs (ncx CX P w K mg base (ps ++ [clsN]) ⟨"__init__", qual, params, .Expr (.Call (.Attribute (.Call (.Name "super" p0) [] [] p1) "__init__" ap) [e] [] cpos) epos :: rest, scope, [("__class__", cc)], cd⟩ fI A outer s H E) rest t ∧
        te (startF (ps ++ [clsN]) vs [some (.ref C)]) H fun us H1 => us.length ≤ sizeLine ∧ H1 a = some (exo a C none) ∧ t { nx := fun _ H' => Q .non H', rt := Q } (startF (ps ++ [clsN]) vs [some (.ref C)]) H1) :
    FnOk P w K mg base CX (k + 1) fI fd ps sp := by
  refine ⟨len, fun A outer s H args us vs Q E hr e0 hb r hsp => ?_⟩
  have hlen := len _ _ _ _ hsp
  have KX : K.In s.heap := e0.mod.kin.keeps fun b o e => (e0.bs b o e).1
  have lim : s.heap.NoLimit := e0.mod.nolimit.keeps fun b o e => (e0.bs b o e).1
  obtain ⟨oc, od, osl, doc, pm, ctv, rfl, lk⟩ := hfd
  obtain ⟨cl, cld, csl, lcell⟩ := F.cell
  have hcb := e0.bs cc _ (e0.mod.kin _ _ lcell)
  have CA : CellsAt [(("__class__" : Str), cc)] ["__class__"] [some (V.ref C)] s.heap H := by
    refine ⟨rfl, fun y c q => ?_, fun x y c q1 q2 => ?_, fun i y q => ?_⟩
    · rw [List.lookup_cons] at q
      split at q
      · cases q
        exact ⟨hcb.2, _, _, hcb.1, rfl⟩
      · cases q
    · rw [List.lookup_cons] at q1 q2
      split at q1
      · rename_i z1
        split at q2
        · rename_i z2
          have z1 : x = "__class__" := by simpa using z1
          have z2 : y = "__class__" := by simpa using z2
          rw [z1, z2]
        · cases q2
      · cases q1
    · cases i with
      | zero =>
        simp only [List.getElem?_cons_zero, Option.some.injEq] at q
        subst q
        refine ⟨cc, by rw [List.lookup_cons]; simp, fun v z => ?_⟩
        simp only [List.getElem?_cons_zero, Option.some.injEq] at z
        subst z
        exact ⟨_, rfl, _, hcb.1, rfl⟩
      | succ i => simp at q
  refine codeAny_call_function hr.depth (KX _ _ lk) rfl S.co S.gen rfl (PySem.W.codeRec_of KX F.hcd) (hb _ _ _ _ ?_)
  refine wpAny_newFunctionEnv S.nocell (fun ⟨n, _⟩ hy => S.par n (List.of_mem_zip hy).1) (fun h₁ hns hsb => ⟨lim.fresh _ hsb, ?_⟩) S.kind
  refine PySem.ks_codeAny_funcAt ?_
  have kp : ∀ b o, s.heap.get? b = some o → h₁.get? b = some o := fun b o e => hsb.extBut b o (Nat.ne_of_lt (Heap.lt_size e)) (Heap.get?_push_of_some _ e)
  obtain ⟨a, te, t, hva, ha, hte, ht, hq⟩ := hbody cc A outer s H vs Q E (hr.deeper _) hsp
  let NF0 : NF := ⟨"__init__", qual, params, .Expr (.Call (.Attribute (.Call (.Name "super" p0) [] [] p1) "__init__" ap) [e] [] cpos) epos :: rest, scope, [("__class__", cc)], cd⟩
  have I : L2.Inv (ncx CX P w K mg base (ps ++ [clsN]) NF0 fI A outer s H E) [] (startF (ps ++ [clsN]) vs [some (.ref C)]) H { s with heap := h₁, toks := s.toks + (ps.zip us).length } := inv_startN S hr.hd e0 hlen r CA hns kp
  refine PySem.ks_wpAt_execs_cons (PySem.ks_wpAt_mono (sup_stmt (X := ncx CX P w K mg base (ps ++ [clsN]) NF0 fI A outer s H E) (Q := fun H1 => t { nx := fun _ H' => Q .non H', rt := Q } (startF (ps ++ [clsN]) vs [some (.ref C)]) H1) (E := fun _ _ => False) F rfl hp ?hN ?hs hks ?hkc ?hka S.kind hm ha I hte hq (hst _) hl) (fun fl s1 hv => ?_) fun e s' hs => hs)
  case hN =>
    have h0 : 0 < ps.length := by
      cases ps with
      | nil => cases hps
      | cons _ _ => exact Nat.zero_lt_succ _
    exact (List.getElem?_append_left h0).trans hps
  case hs =>
    have h0 : 0 < vs.length := by
      cases vs with
      | nil => cases hva
      | cons _ _ => exact Nat.zero_lt_succ _
    unfold startF
    rw [List.getElem?_append_left (by rw [List.length_map]; exact h0), List.getElem?_map, hva]
    rfl
  case hkc => exact S.frk clsN (List.mem_singleton.2 rfl)
  case hka => exact S.par _ (List.mem_of_getElem? hps)
  obtain ⟨rfl, H1, I1, q1⟩ := hv
  refine PySem.wpAt_of_wpAny ?_
  refine wpAny_mono (ht.run [] s1 _ H1 _ I1 q1) (fun fl s' hs => ?_) fun e s' hs => hs
  have fin : ∀ {σ' : L2.St} {H' : Hp} {v : V} {u : Value}, L2.Inv (ncx CX P w K mg base (ps ++ [clsN]) NF0 fI A outer s H E) [] σ' H' s' → L2.RelV v u → Q v H' → CE outer P w H s Q u s' :=
    fun {σ' H' v u} J rv q => ⟨v, H', J.os, J.bare, J.base, J.hok, rv, q⟩
  cases fl with
  | ret u =>
    obtain ⟨v, σ', H', J, rv, q⟩ := hs
    exact fin J rv q
  | next =>
    obtain ⟨σ', H', J, q⟩ := hs
    exact fin (v := V.non) (u := Value.none) J rfl q
  | brk =>
    obtain ⟨_, _, _, q⟩ := hs
    exact False.elim q
  | cont =>
    obtain ⟨_, _, _, q⟩ := hs
    exact False.elim q
end Ev
set_option Elab.async false
set_option linter.all false
set_option maxRecDepth 100000
set_option maxHeartbeats 4000000
/-! EvXr: an own exception made and raised. -/
namespace Ev
open PySem PySem.Spec PyProof.Rows L2 NdefX

/-- a value as an f-string says it -/
def FmtV (x : V) (y : Str) : Prop := (x = .str y ∨ (∃ i : Int, x = .int i ∧ i.natAbs.log2 < 1900 ∧ y = Str.ofString (toString i)) ∨ (x = .non ∧ y = Str.ofString "None")) ∧ y.length ≤ 3000
theorem fmt_of {K : PySem.W.Frag} {H : Hp} {d : D} {v : V} (r : RV K H d v) (h : fmtD d = true) : ∃ y, FmtV v y := by
  cases r with
  | str s => exact ⟨s, .inl rfl, by simpa [fmtD] using h⟩
  | int i =>
    have h : i.natAbs.log2 < 1900 := by simpa [fmtD] using h
    refine ⟨_, .inr (.inl ⟨i, rfl, h, rfl⟩), ?_⟩
    have e := int_text_length_le (k := 1900) (by decide) h
    rw [PySem.ofString_length]
    omega
  | non => exact ⟨_, .inr (.inr ⟨rfl, rfl⟩), by decide⟩
  | _ => simp [fmtD] at h
section
variable {X : Cx}
theorem pe_fmtA {e : Expr} {te : TE} {pos : Pos} (he : PE X e te) : PE X (.FormattedValue e (-1) none pos) (fun σ H Q => te σ H fun x H1 => ∃ y, FmtV x y ∧ Q (.str y) H1) := by
  refine ⟨fun pins s σ H Q I h => ?_⟩
  refine wpAny_FormattedValue_plain (thn (he.run pins s σ H _ I h) fun v s1 hv => ?_)
  obtain ⟨x, H1, I1, r1, y, ⟨hx, hz⟩, q⟩ := hv
  have hz' : y.length ≤ sizeLine := by rw [sizeLine_eq]; omega
  rcases hx with rfl | ⟨i, rfl, hi, rfl⟩ | ⟨rfl, rfl⟩
  · obtain ⟨t, rfl⟩ := r1
    exact wpAny_formatField_str ⟨.str y, H1, I1, ⟨t, rfl⟩, q⟩ ⟨.str y, H1, I1.tok _, ⟨_, rfl⟩, q⟩ hz'
  · obtain ⟨t, rfl⟩ := r1
    exact wpAny_formatField_int (by omega) ⟨.str (toString i), H1, I1.tok _, ⟨_, rfl⟩, q⟩
  · cases r1
    exact wpAny_formatField_none ⟨.str "None", H1, I1.tok _, ⟨_, rfl⟩, q⟩
def fPart (ps : List Str) : Expr → Bool
  | .Constant (.str s) _ _ => decide (s.length ≤ 3000)
  | .FormattedValue (.Name x _) c none _ => decide (c = -1) && (decide (x ∈ ps) && plainN x)
  | _ => false
/-- the message: a text, or an f-string over the parameters -/
def mMsg (ps : List Str) (fm : Bool) : Expr → Bool
  | .Constant (.str s) _ _ => decide (s.length ≤ 3000)
  | .JoinedStr (a :: b :: l) _ => fm && (decide (l.length ≤ 50) && (a :: b :: l).all (fPart ps))
  | _ => false
theorem part_ok {ps : List Str} {e : Expr} (h : fPart ps e = true) (hps : ∀ (i : Nat) (x : Str), ps[i]? = some x → X.N[i + 1]? = some x ∧ X.env.scope.names.lookup x = some .local) :
    ∃ t, PE X e t ∧ ∀ (σ : L2.St) (H : Hp) (Q : VK), (∀ i : Nat, i < ps.length → ∃ v y, σ[i + 1]? = some (some v) ∧ FmtV v y) → (∀ y : Str, y.length ≤ 3000 → Q (.str y) H) → t σ H Q := by
  unfold fPart at h
  split at h
  · exact ⟨_, pe_str, fun σ H Q _ q => q _ (of_decide_eq_true h)⟩
  · rename_i x px c pos
    simp only [Bool.and_eq_true, decide_eq_true_eq] at h
    obtain ⟨rfl, hm, hp⟩ := h
    obtain ⟨i, hi⟩ := List.mem_iff_getElem?.1 hm
    obtain ⟨h1, h2⟩ := hps i x hi
    unfold plainN at hp
    simp only [Bool.and_eq_true, Bool.not_eq_true'] at hp
    refine ⟨_, pe_fmtA (pe_var h1 (.inl h2) hp.1.1 hp.1.2), fun σ H Q ha q => ?_⟩
    have hlt : i < ps.length := by
      rcases Nat.lt_or_ge i ps.length with z | z
      · exact z
      · rw [List.getElem?_eq_none z] at hi; cases hi
    obtain ⟨v, y, e1, e2⟩ := ha i hlt
    exact ⟨v, e1, y, e2, q y e2.2⟩
  · cases h
theorem parts_ok {ps : List Str} (hps : ∀ (i : Nat) (x : Str), ps[i]? = some x → X.N[i + 1]? = some x ∧ X.env.scope.names.lookup x = some .local) : ∀ {l : List Expr}, l.all (fPart ps) = true →
    ∃ ts, PJ X l ts ∧ ∀ (acc : Str) (σ : L2.St) (H : Hp) (Q : Str → Hp → Prop), (∀ i : Nat, i < ps.length → ∃ v y, σ[i + 1]? = some (some v) ∧ FmtV v y) → acc.length + 3000 * l.length ≤ sizeLine → (∀ y : Str, y.length ≤ sizeLine → Q y H) → tJs ts acc σ H Q
  | [], _ => ⟨[], .nil, fun acc σ H Q _ hz q => q acc (by simpa using hz)⟩
  | e :: l, h => by
    simp only [List.all_cons, Bool.and_eq_true] at h
    obtain ⟨t, h1, h2⟩ := part_ok h.1 hps
    obtain ⟨ts, h3, h4⟩ := parts_ok hps h.2
    refine ⟨t :: ts, .cons h1 h3, fun acc σ H Q ha hz q => ?_⟩
    refine h2 σ H _ ha fun y hy => ⟨y, rfl, ?_, h4 _ σ H Q ha ?_ q⟩
    · rw [Str.length_append]
      rw [List.length_cons] at hz
      omega
    · rw [Str.length_append]
      rw [List.length_cons] at hz
      omega
theorem msg_ok {ps : List Str} {fm : Bool} {e : Expr} (h : mMsg ps fm e = true) (hps : ∀ (i : Nat) (x : Str), ps[i]? = some x → X.N[i + 1]? = some x ∧ X.env.scope.names.lookup x = some .local) :
    ∃ t, PE X e t ∧ ∀ (σ : L2.St) (H : Hp) (Q : VK), (fm = true → ∀ i : Nat, i < ps.length → ∃ v y, σ[i + 1]? = some (some v) ∧ FmtV v y) → (∀ y : Str, y.length ≤ sizeLine → Q (.str y) H) → t σ H Q := by
  unfold mMsg at h
  split at h
  · refine ⟨_, pe_str, fun σ H Q _ q => q _ ?_⟩
    have := of_decide_eq_true h
    rw [sizeLine_eq]
    omega
  · simp only [Bool.and_eq_true, decide_eq_true_eq] at h
    obtain ⟨h0, h1, h2⟩ := h
    obtain ⟨ts, h3, h4⟩ := parts_ok hps h2
    refine ⟨_, pe_joined h3, fun σ H Q ha q => h4 Str.empty σ H _ (ha h0) ?_ fun y hy => q y hy⟩
    rw [sizeLine_eq]
    show 0 + _ ≤ _
    simp only [List.length_cons]
    omega
  · cases h

/-- self.f = f, of each parameter -/
def mRest (self : Str) : List Str → List Stmt → Bool
  | [], [] => true
  | f :: fs, .Assign [.Attribute (.Name s _) g _] (.Name x _) _ :: l => decide (s = self) && (decide (g = f) && (decide (x = f) && (plainN f && mRest self fs l)))
  | _, _ => false
/-- the exception at a: without fields, or with a dict of these -/
def FldR (H0 : Hp) (a C : Addr) (H' : Hp) (FS : List (Str × V)) : Prop := (FS = [] ∧ H' = H0) ∨ ∃ dx, H0 dx = none ∧ dx ≠ a ∧ H' = upd (upd H0 dx (exd dx FS)) a (exo a C (some dx))
theorem rest_ok {C : Addr} {self : Str} (T : OexC X.K C) (h0 : X.N[0]? = some self) (h0l : X.env.scope.names.lookup self = some .local) (h0p : plainN self = true) : ∀ (fs : List Str) (j : Nat) (l : List Stmt), mRest self fs l = true →
    (∀ (i : Nat) (x : Str), fs[i]? = some x → X.N[j + i]? = some x ∧ X.env.scope.names.lookup x = some .local ∧ PySem.W.findIn X.K (.ref C) x = some none) →
    ∃ t, PSs X l t ∧ ∀ (D : Ends) (σ : L2.St) (H0 H' : Hp) (a : Addr) (FS done : List (Str × V)) (ws : List V), H0 a = some (exo a C none) → σ[0]? = some (some (.ref a)) → FldR H0 a C H' FS → (∀ p ∈ done, FS.lookup p.1 = some p.2) → FS.length + fs.length ≤ 900 → fs.Nodup → (∀ p ∈ done, p.1 ∉ fs) →
      ws.length = fs.length → (∀ (i : Nat) v, ws[i]? = some v → σ[j + i]? = some (some v)) → (∀ H'' FS'', FldR H0 a C H'' FS'' → (∀ p ∈ done ++ fs.zip ws, FS''.lookup p.1 = some p.2) → D.nx σ H'') → t D σ H'
  | [], j, l, h, _ => by
    cases l with
    | nil => exact ⟨tNext, pss_nil, fun D σ H0 H' a FS done ws ha hs hr hd _ _ _ hl _ q => q _ _ hr (by simpa using hd)⟩
    | cons a l => simp [mRest] at h
  | f :: fs, j, l, h, hf => by
    unfold mRest at h
    split at h
    · rename_i z; cases z
    · rename_i f' fs' s ps1 g pa x px pp l' e1
      cases e1
      simp only [Bool.and_eq_true, decide_eq_true_eq] at h
      obtain ⟨rfl, rfl, rfl, hp, hr⟩ := h
      obtain ⟨f1, f2, f3⟩ := hf 0 x (by simp)
      obtain ⟨t, ht, hq⟩ := rest_ok T h0 h0l h0p fs (j + 1) l' hr fun i y hy => by
        have := hf (i + 1) y (by simpa using hy)
        rw [show j + 1 + i = j + (i + 1) by omega]
        exact this
      unfold plainN at hp h0p
      simp only [Bool.and_eq_true, Bool.not_eq_true'] at hp h0p
      refine ⟨_, pss_cons (ps_ost (pe_var h0 (.inl h0l) h0p.1.1 h0p.1.2) (pe_var f1 (.inl f2) hp.1.1 hp.1.2) (sw_no (by rfl) _ _ _)) ht, fun D σ H0 H' a FS done ws ha hs hr hd hz nd hdn hl hw q => ?_⟩
      cases ws with
      | nil => cases hl
      | cons w ws =>
        rw [List.nodup_cons] at nd
        have w0 := hw 0 w rfl
        have next : ∀ H2, FldR H0 a C H2 ((x, w) :: FS) → t { nx := D.nx, rt := D.rt, bk := D.bk, ct := D.ct } σ H2 := fun H2 hr2 => by
          refine hq _ σ H0 H2 a ((x, w) :: FS) (done ++ [(x, w)]) ws ha hs hr2 (fun p hp => ?_) (by simp only [List.length_cons] at hz ⊢; omega) nd.2 (fun p hp => ?_) (by simpa using hl) (fun i v hv => ?_) fun H3 FS3 hr3 hd3 => q H3 FS3 hr3 fun p hp => hd3 p ?_
          · rw [lookup_put]
            rcases List.mem_append.1 hp with hp | hp
            · have ne : p.1 ≠ x := fun z => hdn p hp (by rw [z]; exact List.mem_cons_self)
              rw [if_neg ne]
              exact hd p hp
            · rw [List.mem_singleton] at hp
              subst hp
              rw [if_pos rfl]
          · rcases List.mem_append.1 hp with hp | hp
            · exact fun z => hdn p hp (List.mem_cons_of_mem _ z)
            · rw [List.mem_singleton] at hp
              subst hp
              exact nd.1
          · have := hw (i + 1) v (by simpa using hv)
            rw [show j + 1 + i = j + (i + 1) by omega]
            exact this
          · simpa using hp
        have go : tOst X.K x (tVar 0) (tVar j) { nx := t D, rt := D.rt, bk := D.bk, ct := D.ct } σ H' := by
          refine ⟨w, by simpa using w0, .ref a, hs, a, C, rfl, T, f3, ?_⟩
          rcases hr with ⟨rfl, rfl⟩ | ⟨dx, d1, d2, rfl⟩
          · exact .inl ⟨ha, fun dx d1 d2 => next _ (.inr ⟨dx, d1, d2, rfl⟩)⟩
          · refine .inr ⟨dx, FS, upd_same, (upd_ne d2).trans upd_same, by simp only [List.length_cons] at hz; omega, next _ (.inr ⟨dx, d1, d2, ?_⟩)⟩
            funext b
            by_cases hb : b = dx
            · subst hb; rw [upd_same, upd_ne d2, upd_same]
            · rw [upd_ne hb]
              by_cases hb2 : b = a
              · subst hb2; rw [upd_same, upd_same]
              · rw [upd_ne hb2, upd_ne hb2, upd_ne hb, upd_ne hb]
        exact go
    · cases h
end
end Ev
set_option Elab.async false
set_option linter.all false
set_option maxRecDepth 100000
set_option maxHeartbeats 4000000
/-! EvXs: an own exception's __init__, what it promises; raise. -/
namespace Ev
open PySem PySem.Spec PyProof.Rows L2 NdefX

/-- what such an __init__ promises -/
def spI (C : Addr) (fs : List Str) (fm : Bool) : Sp := fun vs H Q _ => ∃ a ws, vs = .ref a :: ws ∧ ws.length = fs.length ∧ H a = some (exo a C none) ∧ (fm = true → ∀ w ∈ ws, ∃ y, FmtV w y) ∧
  ∀ dx FS, H dx = none → dx ≠ a → (∀ p ∈ fs.zip ws, FS.lookup p.1 = some p.2) → Q .non (upd (upd H dx (exd dx FS)) a (exo a C (some dx)))
def mInit (self : Str) (fs : List Str) (fm : Bool) : List Stmt → Bool
  | .Expr (.Call (.Attribute (.Call (.Name s _) [] [] _) m ap) [e] [] cpos) _ :: rest => decide (s = Str.ofString "super") && (decide (m = Str.ofString "__init__") && ((ap.endLine == cpos.line) && (!isStar e && (mMsg fs fm e && mRest self fs rest))))
  | _ => false
theorem xinit_fn {P : Program} {w : World} {K : PySem.W.Frag} {mg : Str → Option Value} {base : Heap} {C fI cd cc : Addr} {qual : Str} {params : Arguments} {body : List Stmt} {scope : Scope} {self : Str} {fs : List Str} {fm : Bool} {CX : CXT} {k : Nat} {fd : FuncData} {ar : Arg}
    (F : XcF P K C fI cd cc qual params body scope) (hb : mInit self fs fm body = true) (S : NScope ((self :: fs) ++ [clsN]) (self :: fs) [clsN] scope) (hp : (params.posonlyargs ++ params.args).head? = some ar) (ha : ar.arg = self) (hsp : plainN self = true)
    (hks : scope.names.lookup ("super" : Str) = some .globalImplicit) (hm : mg "super" = none) (hne : fs ≠ []) (hl : fs.length ≤ 900) (hno : ∀ f ∈ fs, PySem.W.findIn K (.ref C) f = some none)
    (hfd : ∃ oc od osl doc pm ctv, fd = PySem.W.fnX "__init__" qual params body scope [(clsN, cc)] .none .none doc pm none (.ref cd) ctv ∧ K.lookup fI = some ⟨oc, od, .func fd, osl⟩) :
    FnOk P w K mg base CX (k + 1) fI fd (self :: fs) (spI C fs fm) := by
  unfold mInit at hb
  split at hb
  · rename_i s p0 p1 m ap e cpos epos rest
    simp only [Bool.and_eq_true, decide_eq_true_eq, Bool.not_eq_true'] at hb
    obtain ⟨rfl, rfl, h1, h2, h3, h4⟩ := hb
    have nd : (self :: fs).Nodup := by
      have q := S.nd
      rw [List.nodup_append] at q
      exact q.1
    refine xinit_ok (ps := self :: fs) F S hp (by rw [ha]; rfl) hks hm h1 (fun env => star_cons h2) hfd (fun vs H Q E ⟨a, ws, e1, e2, _⟩ => by rw [e1, List.length_cons, List.length_cons, e2]) fun L A outer s H vs Q E hr ⟨a, ws, e1, e2, e3, e4, e5⟩ => ?_
    subst e1
    let X := ncx CX P w K mg base ((self :: fs) ++ [clsN]) ⟨"__init__", qual, params, .Expr (.Call (.Attribute (.Call (.Name (Str.ofString "super") p0) [] [] p1) (Str.ofString "__init__") ap) [e] [] cpos) epos :: rest, scope, [(clsN, cc)], cd⟩ fI A outer s H E
    have hN : ∀ (i : Nat) (x : Str), fs[i]? = some x → X.N[i + 1]? = some x ∧ X.env.scope.names.lookup x = some .local := fun i x hi => by
      have hlt : i < fs.length := by
        rcases Nat.lt_or_ge i fs.length with z | z
        · exact z
        · rw [List.getElem?_eq_none z] at hi; cases hi
      refine ⟨?_, S.par x (List.mem_cons_of_mem _ (List.mem_of_getElem? hi))⟩
      show ((self :: fs) ++ [clsN])[i + 1]? = some x
      rw [List.getElem?_append_left (by rw [List.length_cons]; omega)]
      exact hi
    obtain ⟨t, ht, hq⟩ := msg_ok (X := X) h3 hN
    obtain ⟨t2, ht2, hq2⟩ := rest_ok (X := X) F.T (C := C) (self := self) rfl (S.par self List.mem_cons_self) hsp fs 1 rest h4 fun i x hi => by
      obtain ⟨z1, z2⟩ := hN i x hi
      exact ⟨by rw [Nat.add_comm]; exact z1, z2, hno x (List.mem_of_getElem? hi)⟩
    have hat : ∀ (i : Nat) v, ws[i]? = some v → (startF ((self :: fs) ++ [clsN]) (.ref a :: ws) [some (.ref C)])[i + 1]? = some (some v) := fun i v hi => by
      have hlt : i < ws.length := by
        rcases Nat.lt_or_ge i ws.length with z | z
        · exact z
        · rw [List.getElem?_eq_none z] at hi; cases hi
      unfold startF
      rw [List.getElem?_append_left (by rw [List.length_map, List.length_cons]; omega), List.getElem?_map]
      show Option.map some ws[i]? = _
      rw [hi]
      rfl
    refine ⟨a, _, t2, rfl, e3, pa_cons ht pa_nil (star_cons h2), ht2, ?_⟩
    refine hq _ H _ (fun hf i hi => ?_) fun y hy => ⟨Nat.le_of_ble_eq_true rfl, e3, ?_⟩
    · have hlt : i < ws.length := by omega
      obtain ⟨y, hy⟩ := e4 hf ws[i] (List.getElem_mem hlt)
      exact ⟨ws[i], y, hat i _ (List.getElem?_eq_getElem hlt), hy⟩
    · refine hq2 _ _ H H a [] [] ws e3 rfl (.inl ⟨rfl, rfl⟩) (fun _ h => by cases h) (by simpa using hl) (List.nodup_cons.1 nd).2 (fun _ h => by cases h) e2 (fun i v hi => by rw [Nat.add_comm]; exact hat i v hi) fun H'' FS'' hr3 hd => ?_
      rcases hr3 with ⟨rfl, _⟩ | ⟨dx, d1, d2, rfl⟩
      · cases fs with
        | nil => exact absurd rfl hne
        | cons f fs =>
          cases ws with
          | nil => cases e2
          | cons w ws =>
            have := hd (f, w) (by simp)
            cases this
      · exact e5 dx FS'' d1 d2 (by simpa using hd)
  · cases hb
end Ev
set_option Elab.async false
set_option linter.all false
set_option maxRecDepth 100000
set_option maxHeartbeats 4000000
/-! EvXh: what the suite of an except clause asks of the caught error. -/
namespace Ev
open PySem PySem.Spec PyProof.Rows L2 NdefX

/-- isinstance of a caught error -/
structure KxC (K : PySem.W.Frag) (C : Addr) : Prop where
  cl : (PySem.W.clsIn K C).isSome = true
  ha : PySem.W.findIn K (.ref C) "__class__" = some (some (.builtin "object.__class__"))
  hn : PySem.W.specialIn K (.builtin "object.__class__") "__get__" = some (some (.builtin "getset_descriptor.__get__"))
  ht : PySem.W.takesIn K (.builtin "object.__class__") = some true
  hm : PySem.W.mroIn K C (.type "object") = some true
def vE : Str := Str.ofString "ValueError"
/-- an exception class of the text: what is asked of its errors -/
structure XcD (K : PySem.W.Frag) (mg : Str → Option Value) (xs : Xt) (c : Str) (C : Addr) : Prop where
  at_ : mg c = some (.ref C)
  xf : XfC K C
  kx : KxC K C
  fld : ∀ e ∈ xs.m, ∀ f ∈ e.2.1, PySem.W.findIn K (.ref C) f = some none
  sub : ∀ d, d ∈ xs.n → ∃ D, mg d = some (.ref D) ∧ PySem.W.exmOne K (.ref C) (.ref D) = some (subC c d) ∧ PySem.W.kitOne K (.ref C) (.ref D) = some (subC c d)
  val : PySem.W.kitOne K (.ref C) (.type "ValueError") = some true
/-- .. how it is made -/
def XcM (P : Program) (w : World) (K : PySem.W.Frag) (mg : Str → Option Value) (base : Heap) (c : Str) (fs : List Str) (fm : Bool) : Prop :=
  ∃ C fI fd ps, mg c = some (.ref C) ∧ OexC K C ∧ PySem.W.findIn K (.ref C) "__init__" = some (some (.ref fI)) ∧ PySem.W.typeIn K (.ref fI) = some (.type "function") ∧ Binds K fd ps [] ∧ fs.length ≤ 900 ∧
    ∀ k, FnOk P w K mg base (L2.CX P w) (k + 1) fI fd ps (spI C fs fm)
structure XcAll (P : Program) (w : World) (K : PySem.W.Frag) (mg : Str → Option Value) (base : Heap) (xs : Xt) : Prop where
  made : ∀ c fs fm, (c, fs, fm) ∈ xs.m → XcM P w K mg base c fs fm
  fc : ∀ c ∈ xs.m.map (·.1), ∃ C, XcD K mg xs c C

theorem kit_exc {K : PySem.W.Frag} {C a : Addr} {oe : Obj} {od : Option Obj} (T : XfC K C) (k : KxC K C) : PySem.W.KitX K (.ref a) (.ref C) (fun h => PySem.W.InstAt h a oe C od) :=
  PySem.W.kitx_exc k.cl T.ga T.gg T.exC k.ha k.hn k.ht k.hm
theorem xd_free {K : PySem.W.Frag} {S : Sto} {H : Hp} (r : RepS K S H) {a : Nat} {fs : List (Str × V)} (h : H a = some (.xd fs)) : S a = none := by
  cases e : S a with
  | none => rfl
  | some o =>
    have q := r a o e
    cases o with
    | lst l => obtain ⟨vs, z, _⟩ := q; rw [h] at z; cases z
    | dic l => obtain ⟨vs, z, _⟩ := q; rw [h] at z; cases z
    | dit l => obtain ⟨vs, z, _⟩ := q; rw [h] at z; cases z
    | ins c f => exact q.elim
theorem look_mem {α : Type} : ∀ {l : List (Str × α)} {f : Str} {d : α}, l.lookup f = some d → (f, d) ∈ l
  | [], _, _, h => by cases h
  | (g, e) :: l, f, d, h => by
    by_cases z : f = g
    · subst z
      have h : some e = some d := by simpa [List.lookup] using h
      cases h
      exact List.mem_cons_self
    · have e' : (f == g) = false := by simpa using z
      exact List.mem_cons_of_mem _ (look_mem (by simpa [List.lookup, e'] using h))

/-- the caught error at hand -/
structure HoldR (K : PySem.W.Frag) (x : Xc) (o : Option Nat) (a ad : Addr) (σ : L2.St) (H : Hp) : Prop where
  slot : ∀ i, o = some i → σ[i]? = some (some (.ref a))
  fs : ∃ FS, H ad = some (.xd FS) ∧ ∀ f d, (f, d) ∈ x.fs → ∃ v, FS.lookup f = some v ∧ RV K H d v
theorem HoldR.go {K : PySem.W.Frag} {x : Xc} {o : Option Nat} {a ad : Addr} {σ : L2.St} {S S' : Sto} {H H' : Hp} (h : HoldR K x o a ad σ H) (rs : RepS K S H) (e : Ext S H S' H') : HoldR K x o a ad σ H' := by
  obtain ⟨FS, hd, hf⟩ := h.fs
  exact ⟨h.slot, FS, e.keep _ _ (xd_free rs hd) hd, fun f d m => let ⟨v, h1, h2⟩ := hf f d m; ⟨v, h1, h2.mono (e.stay rs)⟩⟩

def rIsX (K : PySem.W.Frag) (C a ad : Addr) : List V → Hp → VK → Prop := fun xs H Q => (∃ FS, H ad = some (.xd FS)) ∧
  ((∃ c u b, xs = [.ref a, c] ∧ ClsV c u ∧ PySem.W.kitOne K (.ref C) u = some b ∧ Q (.bl b) H) ∨
    ∃ tp cs us b, xs = [.ref a, .ref tp] ∧ H tp = some (.tup cs) ∧ Paired ClsV cs us ∧ PySem.W.kitAny K (.ref C) us = some b ∧ Q (.bl b) H)
section
variable {X : Cx} {xs : Xt} {x : Xc} {o : Option Nat} {a C ad : Addr} {oe : Obj} {pn : List (Addr × Obj)} {pos : Pos} {y z : Expr}
theorem call_isX (T : XfC X.K C) (k : KxC X.K C) (hz : Zc (.ref C) (some ad) oe) (hf : ∃ vs, oe.data = .fields vs) : CallR (X.suite a ((a, oe) :: pn)) (.builtin "isinstance") (rIsX X.K C a ad) := by
  intro pins s σ H xs us Q I r ⟨⟨FS, hd⟩, h⟩
  have hx : ObjOk X.prog X.w H s.heap ad (.xd FS) := I.hok ad _ hd
  obtain ⟨mA, hns, _⟩ := hx
  obtain ⟨od, ho, _⟩ := lookIn_ns hns
  obtain ⟨ha, _⟩ := I.pin (a, oe) (List.mem_append_left _ List.mem_cons_self)
  obtain ⟨fv, hv⟩ := hf
  have J : PySem.W.InstAt s.heap a oe C (some od) := ⟨ha, hz.1, by unfold PySem.W.notCls; rw [hv] <;> rfl, by rw [hz.2]; exact ho⟩
  rcases h with ⟨c, u, b, rfl, kc, e, q⟩ | ⟨tp, cs, ws, b, rfl, hT, kc, e, q⟩
  · obtain ⟨u1, u2, rfl, r1, r2⟩ := vals2 r
    cases (show u1 = Value.ref a from r1)
    have e2 := kc.eq r2
    subst e2
    exact PySem.W.kia_one (kit_exc T k) I.kIn J e (fun z => nomatch z) fun tk => ⟨.bl b, H, I.kept (t' := tk) fun _ _ z => z, rfl, q⟩
  · obtain ⟨u1, u2, rfl, r1, r2⟩ := vals2 r
    cases (show u1 = Value.ref a from r1)
    cases (show u2 = Value.ref tp from r2)
    obtain ⟨_, its, rv, o, h1, h2, n, h3⟩ := (show ObjOk X.prog X.w H s.heap tp (.tup cs) from I.hok tp _ hT)
    have e3 := ClsV.all kc rv
    subst e3
    obtain ⟨oc, od', dt, sl⟩ := o
    simp only at h2 h3
    subst h2 h3
    exact PySem.W.kia_tup (kit_exc T k) I.kIn J h1 e (fun z => nomatch z) fun tk => ⟨.bl b, H, I.kept (t' := tk) fun _ _ z => z, rfl, q⟩

/-! ### readings -/
def hE (K : PySem.W.Frag) (x : Xc) (o : Option Nat) (a ad : Addr) (e : Hx) : TE := fun σ H Q => ∃ ds S d, RL K H ds σ ∧ RepS K S H ∧ HoldR K x o a ad σ H ∧ hxD x ds S e = some d ∧ ∀ v H', RV K H' d v → Ext S H S H' → RepS K S H' → Q v H'
def hEs (K : PySem.W.Frag) (x : Xc) (o : Option Nat) (a ad : Addr) (e : Hxs) : TA := fun σ H Q => ∃ ds S d, RL K H ds σ ∧ RepS K S H ∧ HoldR K x o a ad σ H ∧ hxsD x ds S e = some d ∧ ∀ v H', RVs K H' d v → Ext S H S H' → RepS K S H' → Q v H'
def hT (K : PySem.W.Frag) (x : Xc) (o : Option Nat) (a ad : Addr) (e : Hx) : TT := fun σ H Q => ∃ ds S d b, RL K H ds σ ∧ RepS K S H ∧ HoldR K x o a ad σ H ∧ hxD x ds S e = some d ∧ truth? S d = some b ∧ ∀ H', Ext S H S H' → RepS K S H' → Q b H'

theorem h_var {i : Nat} {nm : Str} {q : List (Addr × Obj)} (hN : X.N[i]? = some nm) (hv : visB X.env.scope nm = true) (hp : plainN nm = true) : PE (X.suite a q) (.Name nm pos) (hE X.K x o a ad (.var i)) := by
  unfold plainN at hp
  simp only [Bool.and_eq_true, Bool.not_eq_true'] at hp
  have v : Vis X.env.scope nm := by
    unfold visB at hv
    split at hv <;> first | exact .inl (by assumption) | exact .inr (.inl (by assumption)) | exact .inr (.inr (by assumption)) | cases hv
  refine (pe_var (X := X.suite a q) hN v hp.1.1 hp.1.2).imp fun σ H Q ⟨ds, S, d, rl, rs, ho, hd, go⟩ => ?_
  have e : ds[i]? = some (some d) := by
    have hd : (ds[i]?).join = some d := hd
    cases h : ds[i]? with
    | none => rw [h] at hd; cases hd
    | some u =>
      rw [h] at hd
      have hd : u = some d := hd
      rw [hd]
  obtain ⟨w, h1, h2⟩ := rl.2 i d e
  exact ⟨w, h1, go w H h2 Ext.refl rs⟩
/-- the error by its name -/
theorem h_name {i : Nat} {nm : Str} {q : List (Addr × Obj)} (hN : X.N[i]? = some nm) (hv : visB X.env.scope nm = true) (hp : plainN nm = true) : PE (X.suite a q) (.Name nm pos) (tVar i) := by
  unfold plainN at hp
  simp only [Bool.and_eq_true, Bool.not_eq_true'] at hp
  have v : Vis X.env.scope nm := by
    unfold visB at hv
    split at hv <;> first | exact .inl (by assumption) | exact .inr (.inl (by assumption)) | exact .inr (.inr (by assumption)) | cases hv
  exact pe_var (X := X.suite a q) hN v hp.1.1 hp.1.2
theorem h_att {i : Nat} {nm f : Str} {p2 : Pos} (F : XcD X.K X.mg xs x.cls C) (hz : Zc (.ref C) (some ad) oe) (hf : ∃ vs, oe.data = .fields vs) (ho : o = some i) (hN : X.N[i]? = some nm) (hv : visB X.env.scope nm = true) (hp : plainN nm = true) (hm : (xs.m.any fun e => decide (f ∈ e.2.1)) = true) :
    PE (X.suite a ((a, oe) :: pn)) (.Attribute (.Name nm p2) f pos) (hE X.K x o a ad (.att f)) := by
  obtain ⟨e, he, h2⟩ := List.any_eq_true.1 hm
  refine (pe_xf F.xf (F.fld e he f (of_decide_eq_true h2)) hz hf (h_name hN hv hp)).imp fun σ H Q ⟨ds, S, d, rl, rs, hh, hd, go⟩ => ?_
  obtain ⟨FS, h3, h4⟩ := hh.fs
  obtain ⟨v, h5, h6⟩ := h4 f d (look_mem hd)
  exact ⟨.ref a, hh.slot i ho, rfl, rfl, ad, FS, v, rfl, h3, h5, go v H h6 Ext.refl rs⟩
/-- a class by its name -/
def clsB (xs : Xt) (sc : Scope) (n : Str) : Bool := gloB sc n && (plainN n && (decide (n = vE) || decide (n ∈ xs.n)))
theorem cls_pe {n : Str} {q : List (Addr × Obj)} (F : XcD X.K X.mg xs x.cls C) (hV : X.mg "ValueError" = none) (h : clsB xs X.env.scope n = true) : ∃ c u, PE (X.suite a q) (.Name n pos) (tC c) ∧ ClsV c u ∧ PySem.W.kitOne X.K (.ref C) u = some (subC x.cls n) := by
  unfold clsB at h
  simp only [Bool.and_eq_true, Bool.or_eq_true, decide_eq_true_eq] at h
  obtain ⟨hg, hp, h⟩ := h
  rcases h with rfl | h
  · refine ⟨.ty "ValueError", _, pe_bltn (X := X.suite a q) (gl_of hg) hV PyProof.Rows.Boot.«ValueError» rfl (by decide +kernel) (by decide +kernel), .ty "ValueError", ?_⟩
    rw [F.val]
    unfold subC vE
    simp
  · obtain ⟨D, h1, h2, h3⟩ := F.sub n h
    exact ⟨.ref D, _, pe_glob (X := X.suite a q) (v := .ref D) (gl_of hg) h1 rfl (not_debug hp), .own D, h3⟩
def mNs (xs : Xt) (sc : Scope) : List Str → List Expr → Bool
  | [], [] => true
  | n :: ns, .Name m _ :: l => decide (n = m) && (clsB xs sc n && mNs xs sc ns l)
  | _, _ => false
theorem cls_pa {q : List (Addr × Obj)} (F : XcD X.K X.mg xs x.cls C) (hV : X.mg "ValueError" = none) : ∀ (ns : List Str) (l : List Expr), mNs xs X.env.scope ns l = true →
    ∃ cs us, PA (X.suite a q) l (fun _ H Q => Q cs H) ∧ Paired ClsV cs us ∧ PySem.W.kitAny X.K (.ref C) us = some (ns.any fun c => subC x.cls c) ∧ cs.length = l.length
  | [], l, h => by
    cases l with
    | nil => exact ⟨[], [], pa_nil, .nil, rfl, rfl⟩
    | cons _ _ => simp [mNs] at h
  | n :: ns, l, h => by
    cases l with
    | nil => simp [mNs] at h
    | cons y l =>
      cases y with
      | Name m p =>
        simp only [mNs, Bool.and_eq_true, decide_eq_true_eq] at h
        obtain ⟨rfl, h1, h2⟩ := h
        obtain ⟨c, u, p1, p2, p3⟩ := cls_pe (pos := p) (q := q) F hV h1
        obtain ⟨cs, us, q1, q2, q3, q4⟩ := cls_pa F hV ns l h2
        refine ⟨c :: cs, u :: us, pa_cons p1 q1 rfl, .cons p2 q2, ?_, by rw [List.length_cons, List.length_cons, q4]⟩
        show (match PySem.W.kitOne X.K (.ref C) u with | some true => some true | some false => PySem.W.kitAny X.K (.ref C) us | none => none) = _
        rw [p3, List.any_cons]
        cases subC x.cls n with
        | true => rfl
        | false => rw [Bool.false_or]; exact q3
      | _ => simp [mNs] at h
theorem h_is1 {i : Nat} {nm g d : Str} {p1 p2 p3 : Pos} (F : XcD X.K X.mg xs x.cls C) (bi : ∀ x ∈ bNames, X.mg x = none) (hz : Zc (.ref C) (some ad) oe) (hf : ∃ vs, oe.data = .fields vs) (ho : o = some i) (hN : X.N[i]? = some nm) (hv : visB X.env.scope nm = true) (hp : plainN nm = true)
    (hg : g = Str.ofString "isinstance") (hG : gloB X.env.scope g = true) (hd : clsB xs X.env.scope d = true) :
    PE (X.suite a ((a, oe) :: pn)) (.Call (.Name g p1) [.Name nm p2, .Name d p3] [] pos) (hE X.K x o a ad (.isx [d])) := by
  subst hg
  obtain ⟨c, u, q1, q2, q3⟩ := cls_pe (pos := p3) (q := (a, oe) :: pn) F (bi _ (by decide +kernel)) hd
  refine (pe_callB (X := X.suite a ((a, oe) :: pn)) (call_isX F.xf F.kx hz hf) (gl_of hG) (bi _ (by decide +kernel)) (by decide +kernel) (pa_cons (h_name hN hv hp) (pa_cons q1 pa_nil rfl) rfl) (by decide +kernel) (by decide +kernel) rfl rfl).imp fun σ H Q ⟨ds, S, dv, rl, rs, hh, hd, go⟩ => ?_
  obtain ⟨FS, h3, _⟩ := hh.fs
  refine ⟨.ref a, hh.slot i ho, ⟨FS, h3⟩, .inl ⟨c, u, _, rfl, q2, q3, ?_⟩⟩
  have hd : some (D.bl ([d].any fun c => subC x.cls c)) = some dv := hd
  cases hd
  exact go _ H (by rw [List.any_cons, List.any_nil, Bool.or_false]; exact .bl _) Ext.refl rs
theorem h_isN {i : Nat} {nm g : Str} {ns : List Str} {l : List Expr} {k : Nat} {p1 p2 p3 : Pos} (F : XcD X.K X.mg xs x.cls C) (bi : ∀ x ∈ bNames, X.mg x = none) (hz : Zc (.ref C) (some ad) oe) (hf : ∃ vs, oe.data = .fields vs) (ho : o = some i) (hN : X.N[i]? = some nm) (hv : visB X.env.scope nm = true) (hp : plainN nm = true)
    (hg : g = Str.ofString "isinstance") (hG : gloB X.env.scope g = true) (hd : mNs xs X.env.scope ns l = true) (hl : l.length ≤ 1000) :
    PE (X.suite a ((a, oe) :: pn)) (.Call (.Name g p1) [.Name nm p2, .Tuple l k p3] [] pos) (hE X.K x o a ad (.isx ns)) := by
  subst hg
  obtain ⟨cs, us, q1, q2, q3, q4⟩ := cls_pa (q := (a, oe) :: pn) F (bi _ (by decide +kernel)) ns l hd
  refine (pe_callB (X := X.suite a ((a, oe) :: pn)) (call_isX F.xf F.kx hz hf) (gl_of hG) (bi _ (by decide +kernel)) (by decide +kernel) (pa_cons (h_name hN hv hp) (pa_cons (pe_tup q1) pa_nil rfl) rfl) (by decide +kernel) (by decide +kernel) rfl rfl).imp fun σ H Q ⟨ds, S, dv, rl, rs, hh, hd, go⟩ => ?_
  refine ⟨.ref a, hh.slot i ho, by rw [q4, sizeLine_eq]; omega, fun q hq => ?_⟩
  have rs' : RepS X.K S (L2.upd H q (.tup cs)) := rs.free hq
  have e0 : Ext S H S (L2.upd H q (.tup cs)) := Ext.free rs hq
  obtain ⟨FS, h3, _⟩ := (hh.go rs e0).fs
  refine ⟨⟨FS, h3⟩, .inr ⟨q, cs, us, _, rfl, upd_same, q2, q3, ?_⟩⟩
  have hd : some (D.bl (ns.any fun c => subC x.cls c)) = some dv := hd
  cases hd
  exact go _ _ (.bl _) e0 rs'
theorem h_non {q : List (Addr × Obj)} {j} : PE (X.suite a q) (.Constant .none j pos) (hE X.K x o a ad .non) := (pe_non (X := X.suite a q)).imp fun σ H Q ⟨ds, S, d, rl, rs, ho, hd, go⟩ => by
  have hd : some D.non = some d := hd
  cases hd
  exact go _ H .non Ext.refl rs
theorem h_bl {q : List (Addr × Obj)} {b j} : PE (X.suite a q) (.Constant (.bool b) j pos) (hE X.K x o a ad (.bl b)) := (pe_bl (X := X.suite a q)).imp fun σ H Q ⟨ds, S, d, rl, rs, ho, hd, go⟩ => by
  have hd : some (D.bl b) = some d := hd
  cases hd
  exact go _ H (.bl b) Ext.refl rs
theorem h_int {q : List (Addr × Obj)} {b j} : PE (X.suite a q) (.Constant (.int b) j pos) (hE X.K x o a ad (.int b)) := (pe_int (X := X.suite a q)).imp fun σ H Q ⟨ds, S, d, rl, rs, ho, hd, go⟩ => by
  have hd : some (D.int b) = some d := hd
  cases hd
  exact go _ H (.int b) Ext.refl rs
theorem h_str {q : List (Addr × Obj)} {b j} : PE (X.suite a q) (.Constant (.str b) j pos) (hE X.K x o a ad (.str b)) := (pe_str (X := X.suite a q)).imp fun σ H Q ⟨ds, S, d, rl, rs, ho, hd, go⟩ => by
  have hd : some (D.str b) = some d := hd
  cases hd
  exact go _ H (.str b) Ext.refl rs
theorem h_nil {q : List (Addr × Obj)} : PA (X.suite a q) [] (hEs X.K x o a ad .nil) := (pa_nil (X := X.suite a q)).imp fun σ H Q ⟨ds, S, d, rl, rs, ho, hd, go⟩ => by
  have hd : some [] = some d := hd
  cases hd
  exact go [] H .nil Ext.refl rs
theorem h_cons {q : List (Addr × Obj)} {e : Hx} {es : Hxs} {l : List Expr} (h1 : PE (X.suite a q) y (hE X.K x o a ad e)) (h2 : PA (X.suite a q) l (hEs X.K x o a ad es)) (hs : isStar y = false) : PA (X.suite a q) (y :: l) (hEs X.K x o a ad (.cons e es)) := by
  refine (pa_cons h1 h2 (star_cons hs)).imp fun σ H Q ⟨ds, S, d, rl, rs, ho, hd, go⟩ => ?_
  have hd : ((hxD x ds S e).bind fun d => (hxsD x ds S es).map (d :: ·)) = some d := hd
  obtain ⟨d1, e1, hd⟩ := Option.bind_eq_some_iff.1 hd
  obtain ⟨d2, e2, rfl⟩ := Option.map_eq_some_iff.1 hd
  refine ⟨ds, S, d1, rl, rs, ho, e1, fun v H1 rv x1 rs1 => ?_⟩
  refine ⟨ds, S, d2, rl.mono (x1.stay rs), rs1, ho.go rs x1, e2, fun vs H2 rvs x2 rs2 => ?_⟩
  exact go _ H2 (.cons (rv.mono (x2.stay rs1)) rvs) (x1.trans x2) rs2
theorem h_tup {q : List (Addr × Obj)} {es : Hxs} {l : List Expr} {j} (hl : l.length ≤ 1000) (hn : ∀ x σ S ds, hxsD x σ S es = some ds → ds.length = l.length) (h : PA (X.suite a q) l (hEs X.K x o a ad es)) : PE (X.suite a q) (.Tuple l j pos) (hE X.K x o a ad (.tup es)) := by
  refine (pe_tupN h).imp fun σ H Q ⟨ds, S, d, rl, rs, ho, hd, go⟩ => ?_
  have hd : (hxsD x ds S es).map D.tup = some d := hd
  obtain ⟨d2, e2, rfl⟩ := Option.map_eq_some_iff.1 hd
  refine ⟨ds, S, d2, rl, rs, ho, e2, fun vs H1 rvs x1 rs1 => ⟨by rw [← rvs.len, hn _ _ _ _ e2, sizeLine_eq]; omega, fun p oo hp hd => ?_⟩⟩
  exact go _ _ (.tup (.inl ⟨_, upd_same, hd⟩) (rvs.mono (stay_new hp))) (x1.trans (Ext.free rs1 hp)) (rs1.free hp)
theorem h_not {q : List (Addr × Obj)} {e : Hx} (h : PE (X.suite a q) y (hE X.K x o a ad e)) : PE (X.suite a q) (.UnaryOp .Not y pos) (hE X.K x o a ad (.not e)) := by
  refine (pe_notT h).imp fun σ H Q ⟨ds, S, d, rl, rs, ho, hd, go⟩ => ?_
  have hd : ((hxD x ds S e).bind fun d => (truth? S d).map fun b => D.bl (!b)) = some d := hd
  obtain ⟨d1, e1, hd⟩ := Option.bind_eq_some_iff.1 hd
  obtain ⟨b, e2, rfl⟩ := Option.map_eq_some_iff.1 hd
  exact ⟨ds, S, d1, rl, rs, ho, e1, fun v H1 rv x1 rs1 => ⟨b, truth_ok rs1 rv e2, go _ H1 (.bl _) x1 rs1⟩⟩
theorem h_and {q : List (Addr × Obj)} {e f : Hx} {r : List Expr} (h1 : PE (X.suite a q) y (hE X.K x o a ad e)) (h2 : PE (X.suite a q) (.BoolOp .And (z :: r) pos) (hE X.K x o a ad f)) : PE (X.suite a q) (.BoolOp .And (y :: z :: r) pos) (hE X.K x o a ad (.and e f)) := by
  refine (pe_andT h1 h2).imp fun σ H Q ⟨ds, S, d, rl, rs, ho, hd, go⟩ => ?_
  have hd : ((hxD x ds S e).bind fun d => (truth? S d).bind fun k => if k = true then hxD x ds S f else some d) = some d := hd
  obtain ⟨d1, e1, hd⟩ := Option.bind_eq_some_iff.1 hd
  obtain ⟨k, e2, hd⟩ := Option.bind_eq_some_iff.1 hd
  refine ⟨ds, S, d1, rl, rs, ho, e1, fun v H1 rv x1 rs1 => ⟨k, truth_ok rs1 rv e2, ?_⟩⟩
  cases k with
  | true =>
    rw [if_pos rfl] at hd ⊢
    exact ⟨ds, S, d, rl.mono (x1.stay rs), rs1, ho.go rs x1, hd, fun v H2 rv2 x2 rs2 => go v H2 rv2 (x1.trans x2) rs2⟩
  | false =>
    rw [if_neg Bool.false_ne_true] at hd ⊢
    cases hd
    exact go v H1 rv x1 rs1
theorem h_or {q : List (Addr × Obj)} {e f : Hx} {r : List Expr} (h1 : PE (X.suite a q) y (hE X.K x o a ad e)) (h2 : PE (X.suite a q) (.BoolOp .Or (z :: r) pos) (hE X.K x o a ad f)) : PE (X.suite a q) (.BoolOp .Or (y :: z :: r) pos) (hE X.K x o a ad (.or e f)) := by
  refine (pe_orT h1 h2).imp fun σ H Q ⟨ds, S, d, rl, rs, ho, hd, go⟩ => ?_
  have hd : ((hxD x ds S e).bind fun d => (truth? S d).bind fun k => if k = true then some d else hxD x ds S f) = some d := hd
  obtain ⟨d1, e1, hd⟩ := Option.bind_eq_some_iff.1 hd
  obtain ⟨k, e2, hd⟩ := Option.bind_eq_some_iff.1 hd
  refine ⟨ds, S, d1, rl, rs, ho, e1, fun v H1 rv x1 rs1 => ⟨k, truth_ok rs1 rv e2, ?_⟩⟩
  cases k with
  | false =>
    rw [if_neg Bool.false_ne_true] at hd ⊢
    exact ⟨ds, S, d, rl.mono (x1.stay rs), rs1, ho.go rs x1, hd, fun v H2 rv2 x2 rs2 => go v H2 rv2 (x1.trans x2) rs2⟩
  | true =>
    rw [if_pos rfl] at hd ⊢
    cases hd
    exact go v H1 rv x1 rs1
theorem h_ite {q : List (Addr × Obj)} {c e f : Hx} {w : Expr} (h0 : PT (X.suite a q) w (hT X.K x o a ad c)) (h1 : PE (X.suite a q) y (hE X.K x o a ad e)) (h2 : PE (X.suite a q) z (hE X.K x o a ad f)) : PE (X.suite a q) (.IfExp w y z pos) (hE X.K x o a ad (.ite c e f)) := by
  refine (pe_ifExp h0 h1 h2).imp fun σ H Q ⟨ds, S, d, rl, rs, ho, hd, go⟩ => ?_
  have hd : ((hxD x ds S c).bind fun d => (truth? S d).bind fun k => if k = true then hxD x ds S e else hxD x ds S f) = some d := hd
  obtain ⟨d1, e1, hd⟩ := Option.bind_eq_some_iff.1 hd
  obtain ⟨k, e2, hd⟩ := Option.bind_eq_some_iff.1 hd
  refine ⟨ds, S, d1, k, rl, rs, ho, e1, e2, fun H1 x1 rs1 => ?_⟩
  cases k with
  | true =>
    rw [if_pos rfl] at hd ⊢
    exact ⟨ds, S, d, rl.mono (x1.stay rs), rs1, ho.go rs x1, hd, fun v H2 rv2 x2 rs2 => go v H2 rv2 (x1.trans x2) rs2⟩
  | false =>
    rw [if_neg Bool.false_ne_true] at hd ⊢
    exact ⟨ds, S, d, rl.mono (x1.stay rs), rs1, ho.go rs x1, hd, fun v H2 rv2 x2 rs2 => go v H2 rv2 (x1.trans x2) rs2⟩
theorem h_two {K : PySem.W.Frag} {e f : Hx} {σ : L2.St} {H : Hp} {R : V → V → Hp → Prop} {ds : Loc} {S : Sto} {d1 d2 : D} (rl : RL K H ds σ) (rs : RepS K S H) (ho : HoldR K x o a ad σ H) (e1 : hxD x ds S e = some d1) (e2 : hxD x ds S f = some d2)
    (go : ∀ v w H2, RV K H2 d1 v → RV K H2 d2 w → Ext S H S H2 → RepS K S H2 → R v w H2) : hE K x o a ad e σ H fun v H1 => hE K x o a ad f σ H1 fun w H2 => R v w H2 :=
  ⟨ds, S, d1, rl, rs, ho, e1, fun v H1 rv x1 rs1 => ⟨ds, S, d2, rl.mono (x1.stay rs), rs1, ho.go rs x1, e2, fun w H2 rw2 x2 rs2 => go v w H2 (rv.mono (x2.stay rs1)) rw2 (x1.trans x2) rs2⟩⟩
theorem eq_of {K : PySem.W.Frag} {e f : Hx} {ds : Loc} {S : Sto} {d : D} (hd : hxD x ds S (.eq e f) = some d) : ∃ d1 d2 c, hxD x ds S e = some d1 ∧ hxD x ds S f = some d2 ∧ d = .bl c ∧ cmpW .eq d1 d2 S fun k => k = c := by
  have hd : ((hxD x ds S e).bind fun d => (hxD x ds S f).bind fun e => (flat? S d).bind fun u => (flat? S e).bind fun v => if (finT u && finT v) = true then some (.bl (eqT u v)) else none) = some d := hd
  obtain ⟨d1, e1, hd⟩ := Option.bind_eq_some_iff.1 hd
  obtain ⟨d2, e2, hd⟩ := Option.bind_eq_some_iff.1 hd
  obtain ⟨u, e3, hd⟩ := Option.bind_eq_some_iff.1 hd
  obtain ⟨v, e4, hd⟩ := Option.bind_eq_some_iff.1 hd
  by_cases hc : (finT u && finT v) = true
  · rw [if_pos hc] at hd
    cases hd
    exact ⟨d1, d2, _, e1, e2, rfl, u, v, e3, e4, hc, rfl⟩
  · rw [if_neg hc] at hd
    cases hd
theorem h_eq {q : List (Addr × Obj)} {e f : Hx} (hu : X.A.units + 66 < cLine) (h1 : PE (X.suite a q) y (hE X.K x o a ad e)) (h2 : PE (X.suite a q) z (hE X.K x o a ad f)) (hm : notSet z = true) : PE (X.suite a q) (.Compare y [.Eq] [z] pos) (hE X.K x o a ad (.eq e f)) := by
  refine (pe_cmpR (X := X.suite a q) (op_cmp (X := X.suite a q) hu .eq) h1 h2 (noMark hm _)).imp fun σ H Q ⟨ds, S, d, rl, rs, ho, hd, go⟩ => ?_
  obtain ⟨d1, d2, c, e1, e2, rfl, hk⟩ := eq_of (K := X.K) hd
  exact h_two (R := fun v w H2 => rCmp X.K .eq v w H2 Q) rl rs ho e1 e2 fun v w H2 r1 r2 x2 rs2 => ⟨d1, d2, S, _, r1, r2, rs2, hk, fun k hk => by
    subst hk
    exact go _ H2 (.bl _) x2 rs2⟩
theorem h_isnt {q : List (Addr × Obj)} {e : Hx} {j} {p2 : Pos} (hu : X.A.units + 66 < cLine) (h1 : PE (X.suite a q) y (hE X.K x o a ad e)) : PE (X.suite a q) (.Compare y [.IsNot] [.Constant .none j p2] pos) (hE X.K x o a ad (.isnt e)) := by
  refine (pe_cmpR (X := X.suite a q) (op_cmp (X := X.suite a q) hu .isnot) h1 (h_non (x := x) (o := o) (ad := ad)) rfl).imp fun σ H Q ⟨ds, S, d, rl, rs, ho, hd, go⟩ => ?_
  have hd : ((hxD x ds S e).map fun d => D.bl (match d with | .non => false | _ => true)) = some d := hd
  obtain ⟨d1, e1, rfl⟩ := Option.map_eq_some_iff.1 hd
  exact h_two (R := fun v w H2 => rCmp X.K .isnot v w H2 Q) rl rs ho e1 (show hxD x ds S .non = some .non from rfl) fun v w H2 r1 r2 x2 rs2 => ⟨d1, .non, S, fun k => k = _, r1, r2, rs2, ⟨rfl, rfl⟩, fun k hk => by
    subst hk
    exact go _ H2 (.bl _) x2 rs2⟩
/-! tests -/
theorem ht_tru {q : List (Addr × Obj)} {e : Hx} (h : PE (X.suite a q) y (hE X.K x o a ad e)) (he : ∀ whole, isTrue y X.env whole = (do let v ← whole; standAt y.pos; holding [v] (truthy v))) : PT (X.suite a q) y (hT X.K x o a ad e) :=
  (pt_truth h he).imp fun σ H Q ⟨ds, S, d, b, rl, rs, ho, hd, hb, go⟩ => ⟨ds, S, d, rl, rs, ho, hd, fun v H1 rv x1 rs1 => ⟨b, truth_ok rs1 rv hb, go H1 x1 rs1⟩⟩
theorem ht_not {q : List (Addr × Obj)} {e : Hx} (h : PT (X.suite a q) y (hT X.K x o a ad e)) : PT (X.suite a q) (.UnaryOp .Not y pos) (hT X.K x o a ad (.not e)) := by
  refine (pt_not h).imp fun σ H Q ⟨ds, S, d, b, rl, rs, ho, hd, hb, go⟩ => ?_
  have hd : ((hxD x ds S e).bind fun d => (truth? S d).map fun b => D.bl (!b)) = some d := hd
  obtain ⟨d1, e1, hd⟩ := Option.bind_eq_some_iff.1 hd
  obtain ⟨b1, e2, rfl⟩ := Option.map_eq_some_iff.1 hd
  have hb : some (!b1) = some b := hb
  cases hb
  exact ⟨ds, S, d1, b1, rl, rs, ho, e1, e2, fun H1 x1 rs1 => go H1 x1 rs1⟩
theorem ht_and {q : List (Addr × Obj)} {e f : Hx} {r : List Expr} (h1 : PT (X.suite a q) y (hT X.K x o a ad e)) (h2 : PW (X.suite a q) (.BoolOp .And (z :: r) pos) (hT X.K x o a ad f)) : PW (X.suite a q) (.BoolOp .And (y :: z :: r) pos) (hT X.K x o a ad (.and e f)) := by
  refine (pw_and h1 h2).imp fun σ H Q ⟨ds, S, d, b, rl, rs, ho, hd, hb, go⟩ => ?_
  have hd : ((hxD x ds S e).bind fun d => (truth? S d).bind fun k => if k = true then hxD x ds S f else some d) = some d := hd
  obtain ⟨d1, e1, hd⟩ := Option.bind_eq_some_iff.1 hd
  obtain ⟨k, e2, hd⟩ := Option.bind_eq_some_iff.1 hd
  refine ⟨ds, S, d1, k, rl, rs, ho, e1, e2, fun H1 x1 rs1 => ?_⟩
  cases k with
  | true =>
    rw [if_pos rfl] at hd ⊢
    exact ⟨ds, S, d, b, rl.mono (x1.stay rs), rs1, ho.go rs x1, hd, hb, fun H2 x2 rs2 => go H2 (x1.trans x2) rs2⟩
  | false =>
    rw [if_neg Bool.false_ne_true] at hd ⊢
    cases hd
    rw [e2] at hb
    cases hb
    exact go H1 x1 rs1
theorem ht_or {q : List (Addr × Obj)} {e f : Hx} {r : List Expr} (h1 : PT (X.suite a q) y (hT X.K x o a ad e)) (h2 : PW (X.suite a q) (.BoolOp .Or (z :: r) pos) (hT X.K x o a ad f)) : PW (X.suite a q) (.BoolOp .Or (y :: z :: r) pos) (hT X.K x o a ad (.or e f)) := by
  refine (pw_or h1 h2).imp fun σ H Q ⟨ds, S, d, b, rl, rs, ho, hd, hb, go⟩ => ?_
  have hd : ((hxD x ds S e).bind fun d => (truth? S d).bind fun k => if k = true then some d else hxD x ds S f) = some d := hd
  obtain ⟨d1, e1, hd⟩ := Option.bind_eq_some_iff.1 hd
  obtain ⟨k, e2, hd⟩ := Option.bind_eq_some_iff.1 hd
  refine ⟨ds, S, d1, k, rl, rs, ho, e1, e2, fun H1 x1 rs1 => ?_⟩
  cases k with
  | false =>
    rw [if_neg Bool.false_ne_true] at hd ⊢
    exact ⟨ds, S, d, b, rl.mono (x1.stay rs), rs1, ho.go rs x1, hd, hb, fun H2 x2 rs2 => go H2 (x1.trans x2) rs2⟩
  | true =>
    rw [if_pos rfl] at hd ⊢
    cases hd
    rw [e2] at hb
    cases hb
    exact go H1 x1 rs1
theorem ht_eq {q : List (Addr × Obj)} {e f : Hx} (hu : X.A.units + 66 < cLine) (h1 : PE (X.suite a q) y (hE X.K x o a ad e)) (h2 : PE (X.suite a q) z (hE X.K x o a ad f)) (hm : notSet z = true) : PT (X.suite a q) (.Compare y [.Eq] [z] pos) (hT X.K x o a ad (.eq e f)) := by
  refine (pt_cmpR (X := X.suite a q) (op_cmp (X := X.suite a q) hu .eq) h1 h2 (noMark hm _)).imp fun σ H Q ⟨ds, S, d, b, rl, rs, ho, hd, hb, go⟩ => ?_
  obtain ⟨d1, d2, c, e1, e2, rfl, hk⟩ := eq_of (K := X.K) hd
  have hb : some c = some b := hb
  cases hb
  exact h_two (R := fun v w H2 => rCmp X.K .eq v w H2 _) rl rs ho e1 e2 fun v w H2 r1 r2 x2 rs2 => ⟨d1, d2, S, _, r1, r2, rs2, hk, fun k hk => by
    subst hk
    exact ⟨_, rfl, go H2 x2 rs2⟩⟩
theorem ht_isnt {q : List (Addr × Obj)} {e : Hx} {j} {p2 : Pos} (hu : X.A.units + 66 < cLine) (h1 : PE (X.suite a q) y (hE X.K x o a ad e)) : PT (X.suite a q) (.Compare y [.IsNot] [.Constant .none j p2] pos) (hT X.K x o a ad (.isnt e)) := by
  refine (pt_cmpR (X := X.suite a q) (op_cmp (X := X.suite a q) hu .isnot) h1 (h_non (x := x) (o := o) (ad := ad)) rfl).imp fun σ H Q ⟨ds, S, d, b, rl, rs, ho, hd, hb, go⟩ => ?_
  have hd : ((hxD x ds S e).map fun d => D.bl (match d with | .non => false | _ => true)) = some d := hd
  obtain ⟨d1, e1, rfl⟩ := Option.map_eq_some_iff.1 hd
  exact h_two (R := fun v w H2 => rCmp X.K .isnot v w H2 _) rl rs ho e1 (show hxD x ds S .non = some .non from rfl) fun v w H2 r1 r2 x2 rs2 => ⟨d1, .non, S, fun k => some k = some b, r1, r2, rs2, ⟨rfl, hb⟩, fun k hk => by
    cases hk
    exact ⟨_, rfl, go H2 x2 rs2⟩⟩
end
end Ev
set_option Elab.async false
set_option linter.all false
set_option maxRecDepth 100000
set_option maxHeartbeats 4000000
/-! EvXm: which text a suite's term stands for. -/
namespace Ev
open PySem PySem.Spec PyProof.Rows L2

def nmB (N : List Str) (sc : Scope) (o : Option Nat) (nm : Str) : Bool := match o with
  | some i => decide (N[i]? = some nm) && (visB sc nm && plainN nm)
  | none => false
theorem nmB_ok {N : List Str} {sc : Scope} {o : Option Nat} {nm : Str} (h : nmB N sc o nm = true) : ∃ i, o = some i ∧ N[i]? = some nm ∧ visB sc nm = true ∧ plainN nm = true := by
  unfold nmB at h
  split at h
  · rename_i i
    simp only [Bool.and_eq_true, decide_eq_true_eq] at h
    exact ⟨i, rfl, h.1, h.2.1, h.2.2⟩
  · cases h
mutual
def mH (xs : Xt) (N : List Str) (sc : Scope) (o : Option Nat) : Hx → Expr → Bool
  | .var i, .Name x _ => decide (N[i]? = some x) && (visB sc x && plainN x)
  | .att f, .Attribute (.Name x _) n _ => decide (f = n) && (nmB N sc o x && xs.m.any fun e => decide (f ∈ e.2.1))
  | .isx cs, .Call (.Name g _) [.Name x _, .Name d _] [] _ => decide (cs = [d]) && (decide (g = Str.ofString "isinstance") && (gloB sc g && (nmB N sc o x && clsB xs sc d)))
  | .isx cs, .Call (.Name g _) [.Name x _, .Tuple l _ _] [] _ => decide (l.length ≤ 1000) && (decide (g = Str.ofString "isinstance") && (gloB sc g && (nmB N sc o x && mNs xs sc cs l)))
  | .non, .Constant .none _ _ => true
  | .bl b, .Constant (.bool c) _ _ => b == c
  | .int z, .Constant (.int y) _ _ => decide (z = y)
  | .str z, .Constant (.str y) _ _ => decide (z = y)
  | .tup es, .Tuple l _ _ => decide (l.length ≤ 1000) && mHs xs N sc o es l
  | .not e, .UnaryOp .Not x _ => mH xs N sc o e x
  | .and a b, .BoolOp .And [x, y] _ => mH xs N sc o a x && mH xs N sc o b y
  | .and a b, .BoolOp .And (x :: y :: z :: r) p => mH xs N sc o a x && mH xs N sc o b (.BoolOp .And (y :: z :: r) p)
  | .or a b, .BoolOp .Or [x, y] _ => mH xs N sc o a x && mH xs N sc o b y
  | .or a b, .BoolOp .Or (x :: y :: z :: r) p => mH xs N sc o a x && mH xs N sc o b (.BoolOp .Or (y :: z :: r) p)
  | .ite c a b, .IfExp x y z _ => tsH c && (mH xs N sc o c x && (mH xs N sc o a y && mH xs N sc o b z))
  | .eq a b, .Compare x [.Eq] [y] _ => notSet y && (mH xs N sc o a x && mH xs N sc o b y)
  | .isnt a, .Compare x [.IsNot] [.Constant .none _ _] _ => mH xs N sc o a x
  | _, _ => false
def mHs (xs : Xt) (N : List Str) (sc : Scope) (o : Option Nat) : Hxs → List Expr → Bool
  | .nil, [] => true
  | .cons e es, x :: l => mH xs N sc o e x && mHs xs N sc o es l
  | _, _ => false
/-- what may stand as a test -/
def tsH : Hx → Bool
  | .ite _ _ _ => false
  | .and a b => tsH a && tsH b
  | .or a b => tsH a && tsH b
  | .not a => tsH a
  | _ => true
end
theorem mH_star {xs : Xt} {N : List Str} {sc : Scope} {o : Option Nat} {e : Hx} {y : Expr} (h : mH xs N sc o e y = true) : isStar y = false := by
  cases y with
  | Starred v p => cases e <;> simp [mH] at h
  | _ => rfl
theorem mHs_len {xs : Xt} {N : List Str} {sc : Scope} {o : Option Nat} : ∀ {es : Hxs} {l : List Expr}, mHs xs N sc o es l = true → ∀ x σ S ds, hxsD x σ S es = some ds → ds.length = l.length
  | .nil, l, h, x, σ, S, ds, hd => by
    cases l with
    | nil => cases (show some [] = some ds from hd); rfl
    | cons _ _ => simp [mHs] at h
  | .cons e es, l, h, x, σ, S, ds, hd => by
    cases l with
    | nil => simp [mHs] at h
    | cons y l =>
      simp only [mHs, Bool.and_eq_true] at h
      have hd : ((hxD x σ S e).bind fun d => (hxsD x σ S es).map (d :: ·)) = some ds := hd
      obtain ⟨d1, e1, hd⟩ := Option.bind_eq_some_iff.1 hd
      obtain ⟨d2, e2, rfl⟩ := Option.map_eq_some_iff.1 hd
      rw [List.length_cons, List.length_cons, mHs_len h.2 _ _ _ _ e2]
structure SOk (X : Cx) (xs : Xt) (x : Xc) (C a ad : Addr) (oe : Obj) : Prop where
  F : XcD X.K X.mg xs x.cls C
  bi : ∀ x ∈ bNames, X.mg x = none
  hz : Zc (.ref C) (some ad) oe
  hf : ∃ vs, oe.data = .fields vs
  hu : X.A.units + 66 < cLine
section
variable {X : Cx} {xs : Xt} {x : Xc} {o : Option Nat} {a C ad : Addr} {oe : Obj} {pn : List (Addr × Obj)} (K : SOk X xs x C a ad oe)
include K
mutual
theorem hx_ok : ∀ (e : Hx) (y : Expr), mH xs X.N X.env.scope o e y = true → PE (X.suite a ((a, oe) :: pn)) y (hE X.K x o a ad e)
  | .var i, y, h => by
    cases y with
    | Name n p =>
      simp only [mH, Bool.and_eq_true, decide_eq_true_eq] at h
      exact h_var h.1 h.2.1 h.2.2
    | _ => simp [mH] at h
  | .att f, y, h => by
    cases y with
    | Attribute v n p =>
      cases v with
      | Name nm p2 =>
        simp only [mH, Bool.and_eq_true, decide_eq_true_eq] at h
        obtain ⟨rfl, h1, h2⟩ := h
        obtain ⟨i, h3, h4, h5, h6⟩ := nmB_ok h1
        exact h_att K.F K.hz K.hf h3 h4 h5 h6 h2
      | _ => simp [mH] at h
    | _ => simp [mH] at h
  | .isx cs, y, h => by
    unfold mH at h
    split at h <;> first | (cases h; done) | skip
    all_goals first
      | (rename_i hq; cases hq; done)
      | skip
    · rename_i e1 e2 cs' g p1 nm p2 d p3 pos heq
      cases heq
      simp only [Bool.and_eq_true, decide_eq_true_eq] at h
      obtain ⟨rfl, h1, h2, h3, h4⟩ := h
      obtain ⟨i, h5, h6, h7, h8⟩ := nmB_ok h3
      exact h_is1 K.F K.bi K.hz K.hf h5 h6 h7 h8 h1 h2 h4
    · rename_i e1 e2 cs' g p1 nm p2 l k p3 pos heq
      cases heq
      simp only [Bool.and_eq_true, decide_eq_true_eq] at h
      obtain ⟨h0, h1, h2, h3, h4⟩ := h
      obtain ⟨i, h5, h6, h7, h8⟩ := nmB_ok h3
      exact h_isN K.F K.bi K.hz K.hf h5 h6 h7 h8 h1 h2 h4 h0
  | .non, y, h => by
    cases y with
    | Constant c j p => cases c <;> first | exact h_non | (simp [mH] at h; done)
    | _ => simp [mH] at h
  | .bl b, y, h => by
    cases y with
    | Constant c j p =>
      cases c <;> first | (simp [mH] at h; done) | skip
      rename_i c
      have h : (b == c) = true := by simpa [mH] using h
      rw [eq_of_beq h]
      exact h_bl
    | _ => simp [mH] at h
  | .int b, y, h => by
    cases y with
    | Constant c j p =>
      cases c <;> first | (simp [mH] at h; done) | skip
      rename_i c
      have h : b = c := by simpa [mH] using h
      rw [h]
      exact h_int
    | _ => simp [mH] at h
  | .str b, y, h => by
    cases y with
    | Constant c j p =>
      cases c <;> first | (simp [mH] at h; done) | skip
      rename_i c
      have h : b = c := by simpa [mH] using h
      rw [h]
      exact h_str
    | _ => simp [mH] at h
  | .tup es, y, h => by
    cases y with
    | Tuple l k p =>
      simp only [mH, Bool.and_eq_true, decide_eq_true_eq] at h
      exact h_tup h.1 (mHs_len h.2) (hxs_ok es l h.2)
    | _ => simp [mH] at h
  | .not e, y, h => by
    cases y with
    | UnaryOp op z p =>
      cases op <;> first | (simp [mH] at h; done) | skip
      simp only [mH] at h
      exact h_not (hx_ok e z h)
    | _ => simp [mH] at h
  | .and e f, y, h => by
    cases y with
    | BoolOp op l p =>
      cases op <;> first | (simp [mH] at h; done) | skip
      rcases l with _ | ⟨u, _ | ⟨v, _ | ⟨w, r⟩⟩⟩ <;> first | (simp [mH] at h; done) | skip
      · simp only [mH, Bool.and_eq_true] at h
        exact h_and (hx_ok e u h.1) (pe_one (hx_ok f v h.2))
      · simp only [mH, Bool.and_eq_true] at h
        exact h_and (hx_ok e u h.1) (hx_ok f _ h.2)
    | _ => simp [mH] at h
  | .or e f, y, h => by
    cases y with
    | BoolOp op l p =>
      cases op <;> first | (simp [mH] at h; done) | skip
      rcases l with _ | ⟨u, _ | ⟨v, _ | ⟨w, r⟩⟩⟩ <;> first | (simp [mH] at h; done) | skip
      · simp only [mH, Bool.and_eq_true] at h
        exact h_or (hx_ok e u h.1) (pe_one (hx_ok f v h.2))
      · simp only [mH, Bool.and_eq_true] at h
        exact h_or (hx_ok e u h.1) (hx_ok f _ h.2)
    | _ => simp [mH] at h
  | .ite c e f, y, h => by
    cases y with
    | IfExp u v w p =>
      simp only [mH, Bool.and_eq_true] at h
      exact h_ite (ht_ok c u h.1 h.2.1) (hx_ok e v h.2.2.1) (hx_ok f w h.2.2.2)
    | _ => simp [mH] at h
  | .eq e f, y, h => by
    unfold mH at h
    split at h <;> first | (cases h; done) | skip
    all_goals first
      | (rename_i hq; cases hq; done)
      | skip
    rename_i e1 e2 a' b' u v p heq
    cases heq
    simp only [Bool.and_eq_true] at h
    exact h_eq K.hu (hx_ok e u h.2.1) (hx_ok f v h.2.2) h.1
  | .isnt e, y, h => by
    unfold mH at h
    split at h <;> first | (cases h; done) | skip
    all_goals first
      | (rename_i hq; cases hq; done)
      | skip
    rename_i e1 e2 a' u j p2 p heq
    cases heq
    exact h_isnt K.hu (hx_ok e u h)
termination_by e => (sizeOf e, 0)
decreasing_by all_goals (first | decreasing_tactic | (simp_wf; omega) | (apply Prod.Lex.right; decide))
theorem hxs_ok : ∀ (e : Hxs) (y : List Expr), mHs xs X.N X.env.scope o e y = true → PA (X.suite a ((a, oe) :: pn)) y (hEs X.K x o a ad e)
  | .nil, y, h => by
    cases y with
    | nil => exact h_nil
    | cons _ _ => simp [mHs] at h
  | .cons e es, y, h => by
    cases y with
    | nil => simp [mHs] at h
    | cons y l =>
      simp only [mHs, Bool.and_eq_true] at h
      exact h_cons (hx_ok e y h.1) (hxs_ok es l h.2) (mH_star h.1)
termination_by e => (sizeOf e, 0)
decreasing_by all_goals (first | decreasing_tactic | (simp_wf; omega) | (apply Prod.Lex.right; decide))
theorem ht_ok : ∀ (e : Hx) (y : Expr), tsH e = true → mH xs X.N X.env.scope o e y = true → PT (X.suite a ((a, oe) :: pn)) y (hT X.K x o a ad e)
  | .var i, y, ht, h => ht_tru (hx_ok (.var i) y h) fun whole => by
    cases y with
    | UnaryOp op z p => cases op <;> first | rfl | (simp [mH] at h; done)
    | BoolOp op z p => simp [mH] at h
    | IfExp u v w p => simp [mH] at h
    | Compare u v w p => simp [mH] at h
    | _ => rfl
  | .att f, y, ht, h => ht_tru (hx_ok (.att f) y h) fun whole => by
    cases y with
    | UnaryOp op z p => cases op <;> first | rfl | (simp [mH] at h; done)
    | BoolOp op z p => simp [mH] at h
    | IfExp u v w p => simp [mH] at h
    | Compare u v w p => simp [mH] at h
    | _ => rfl
  | .isx cs, y, ht, h => ht_tru (hx_ok (.isx cs) y h) fun whole => by
    cases y with
    | UnaryOp op z p => cases op <;> first | rfl | (simp [mH] at h; done)
    | BoolOp op z p => simp [mH] at h
    | IfExp u v w p => simp [mH] at h
    | Compare u v w p => simp [mH] at h
    | _ => rfl
  | .non, y, ht, h => ht_tru (hx_ok (.non) y h) fun whole => by
    cases y with
    | UnaryOp op z p => cases op <;> first | rfl | (simp [mH] at h; done)
    | BoolOp op z p => simp [mH] at h
    | IfExp u v w p => simp [mH] at h
    | Compare u v w p => simp [mH] at h
    | _ => rfl
  | .bl b, y, ht, h => ht_tru (hx_ok (.bl b) y h) fun whole => by
    cases y with
    | UnaryOp op z p => cases op <;> first | rfl | (simp [mH] at h; done)
    | BoolOp op z p => simp [mH] at h
    | IfExp u v w p => simp [mH] at h
    | Compare u v w p => simp [mH] at h
    | _ => rfl
  | .int b, y, ht, h => ht_tru (hx_ok (.int b) y h) fun whole => by
    cases y with
    | UnaryOp op z p => cases op <;> first | rfl | (simp [mH] at h; done)
    | BoolOp op z p => simp [mH] at h
    | IfExp u v w p => simp [mH] at h
    | Compare u v w p => simp [mH] at h
    | _ => rfl
  | .str b, y, ht, h => ht_tru (hx_ok (.str b) y h) fun whole => by
    cases y with
    | UnaryOp op z p => cases op <;> first | rfl | (simp [mH] at h; done)
    | BoolOp op z p => simp [mH] at h
    | IfExp u v w p => simp [mH] at h
    | Compare u v w p => simp [mH] at h
    | _ => rfl
  | .tup es, y, ht, h => ht_tru (hx_ok (.tup es) y h) fun whole => by
    cases y with
    | UnaryOp op z p => cases op <;> first | rfl | (simp [mH] at h; done)
    | BoolOp op z p => simp [mH] at h
    | IfExp u v w p => simp [mH] at h
    | Compare u v w p => simp [mH] at h
    | _ => rfl
  | .not e, y, ht, h => by
    cases y with
    | UnaryOp op z p =>
      cases op <;> first | (simp [mH] at h; done) | skip
      simp only [mH] at h
      simp only [tsH] at ht
      exact ht_not (ht_ok e z ht h)
    | _ => simp [mH] at h
  | .and e f, y, ht, h => by
    cases y with
    | BoolOp op l p => exact (hw_ok (.and e f) op l p ht h).pt
    | _ => simp [mH] at h
  | .or e f, y, ht, h => by
    cases y with
    | BoolOp op l p => exact (hw_ok (.or e f) op l p ht h).pt
    | _ => simp [mH] at h
  | .ite c e f, y, ht, h => by simp [tsH] at ht
  | .eq e f, y, ht, h => by
    unfold mH at h
    split at h <;> first | (cases h; done) | skip
    all_goals first
      | (rename_i hq; cases hq; done)
      | skip
    rename_i e1 e2 a' b' u v p heq
    cases heq
    simp only [Bool.and_eq_true] at h
    exact ht_eq K.hu (hx_ok e u h.2.1) (hx_ok f v h.2.2) h.1
  | .isnt e, y, ht, h => by
    unfold mH at h
    split at h <;> first | (cases h; done) | skip
    all_goals first
      | (rename_i hq; cases hq; done)
      | skip
    rename_i e1 e2 a' u j p2 p heq
    cases heq
    exact ht_isnt K.hu (hx_ok e u h)
termination_by e => (sizeOf e, 2)
decreasing_by all_goals (first | decreasing_tactic | (simp_wf; omega) | (apply Prod.Lex.right; decide))
theorem hw_ok : ∀ (e : Hx) (op : BoolOp) (l : List Expr) (pos : Pos), tsH e = true → mH xs X.N X.env.scope o e (.BoolOp op l pos) = true → PW (X.suite a ((a, oe) :: pn)) (.BoolOp op l pos) (hT X.K x o a ad e)
  | .and e f, op, l, pos, ht, h => by
    simp only [tsH, Bool.and_eq_true] at ht
    cases op <;> first | (simp [mH] at h; done) | skip
    rcases l with _ | ⟨u, _ | ⟨v, _ | ⟨w, r⟩⟩⟩ <;> first | (simp [mH] at h; done) | skip
    · simp only [mH, Bool.and_eq_true] at h
      exact ht_and (ht_ok e u ht.1 h.1) (pw_and1 (ht_ok f v ht.2 h.2))
    · simp only [mH, Bool.and_eq_true] at h
      exact ht_and (ht_ok e u ht.1 h.1) (hw_ok f _ _ _ ht.2 h.2)
  | .or e f, op, l, pos, ht, h => by
    simp only [tsH, Bool.and_eq_true] at ht
    cases op <;> first | (simp [mH] at h; done) | skip
    rcases l with _ | ⟨u, _ | ⟨v, _ | ⟨w, r⟩⟩⟩ <;> first | (simp [mH] at h; done) | skip
    · simp only [mH, Bool.and_eq_true] at h
      exact ht_or (ht_ok e u ht.1 h.1) (pw_or1 (ht_ok f v ht.2 h.2))
    · simp only [mH, Bool.and_eq_true] at h
      exact ht_or (ht_ok e u ht.1 h.1) (hw_ok f _ _ _ ht.2 h.2)
  | .var i, op, l, pos, ht, h => by simp [mH] at h
  | .att f, op, l, pos, ht, h => by simp [mH] at h
  | .isx cs, op, l, pos, ht, h => by simp [mH] at h
  | .non, op, l, pos, ht, h => by simp [mH] at h
  | .bl b, op, l, pos, ht, h => by simp [mH] at h
  | .int b, op, l, pos, ht, h => by simp [mH] at h
  | .str b, op, l, pos, ht, h => by simp [mH] at h
  | .tup es, op, l, pos, ht, h => by simp [mH] at h
  | .not e, op, l, pos, ht, h => by simp [mH] at h
  | .ite c e f, op, l, pos, ht, h => by simp [mH] at h
  | .eq e f, op, l, pos, ht, h => by simp [mH] at h
  | .isnt e, op, l, pos, ht, h => by simp [mH] at h
termination_by e => (sizeOf e, 1)
decreasing_by all_goals (first | decreasing_tactic | (simp_wf; omega) | (apply Prod.Lex.right; decide))
end
end
end Ev
set_option Elab.async false
set_option linter.all false
set_option maxRecDepth 100000
set_option maxHeartbeats 1000000
/-! EvC6: statements, one by one and together. -/
namespace Ev
open PySem PySem.Spec PyProof.Rows L2

/-! ### the match -/
def fnB (sc : Scope) : Bool := match sc.kind with
  | .function => true
  | _ => false
/-- x = [..], the store folded into the comprehension; or not -/
def lcYes (sc : Scope) (x : Str) (px : Pos) : Expr → Bool
  | .ListComp _ _ s p => fnB sc && (decide (sc.names.lookup x = some .local) && ((px.line == p.line) && !(s.names.any fun (n, k) => n == x && (k == .local || k == .cell))))
  | _ => false
def lcNo (sc : Scope) (x : Str) (px : Pos) : Expr → Bool
  | .ListComp _ _ s p => !(sc.names.lookup x == some .local && px.line == p.line && !(s.names.any fun (n, k) => n == x && (k == .local || k == .cell)))
  | .SetComp _ _ _ _ => false
  | .DictComp _ _ _ _ _ => false
  | _ => true
def par2 (N : List Str) (sc : Scope) : Tgs → List Expr → List Expr → Bool
  | .cons (.nm i) (.cons (.nm j) .nil), [.Name x px, .Name y py], vs => decide (i ≠ j) && (decide (sc.names.lookup x = some .local) && (decide (sc.names.lookup y = some .local) && swS sc [.Name x px, .Name y py] vs [x, y]))
  | .cons (.nm i) (.cons (.nm j) (.cons (.nm l) .nil)), [.Name x px, .Name y py, .Name z pz], vs => decide (i ≠ j ∧ i ≠ l ∧ j ≠ l) && (decide (sc.names.lookup x = some .local) && (decide (sc.names.lookup y = some .local) && (decide (sc.names.lookup z = some .local) && swS sc [.Name x px, .Name y py, .Name z pz] vs [x, y, z])))
  | _, _, _ => false
def mA (G : Gt) (N : List Str) (sc : Scope) (ts : Tgs) (l : List Expr) : Ex → Expr → Bool
  | .tup es, .Tuple vs _ _ => mEs G N sc es vs && (swN sc l vs || par2 N sc ts l vs)
  | e, v => !isTupE v && (!isLc v && mE G N sc e v)
mutual
def mHS (xs : Xt) (N : List Str) (sc : Scope) (o : Option Nat) : Hs → Stmt → Bool
  | .ret e, .Return (some v) _ => mH xs N sc o e v
  | .iff c a b, .If x l r _ => tsH c && (mH xs N sc o c x && (mHSs xs N sc o a l && mHSs xs N sc o b r))
  | .asg i e, .Assign [.Name x px] v _ => decide (o ≠ some i) && (decide (N[i]? = some x) && (locB sc x && (lcNo sc x px v && mH xs N sc o e v)))
  | _, _ => false
def mHSs (xs : Xt) (N : List Str) (sc : Scope) (o : Option Nat) : Hss → List Stmt → Bool
  | .nil, [] => true
  | .cons s ss, x :: l => mHS xs N sc o s x && mHSs xs N sc o ss l
  | _, _ => false
end
/-- a class that may be caught -/
def catB (xs : Xt) (sc : Scope) (n : Str) : Bool := gloB sc n && (plainN n && decide (n ∈ xs.n))
def cmeB (xs : Xt) (cs : List Str) : Bool := !cs.isEmpty && cs.all fun c => decide (c ∈ xs.m.map (·.1))
def mHds (xs : Xt) (N : List Str) (sc : Scope) : List (Str × Hss) → List ExceptHandler → Bool
  | [], [] => true
  | (c, h) :: r, .ExceptHandler (some (.Name x _)) none (b :: l) _ :: hds => decide (c = x) && (catB xs sc c && (mHSs xs N sc none h (b :: l) && mHds xs N sc r hds))
  | _, _ => false
mutual
def mS (G : Gt) (N : List Str) (sc : Scope) : Sx → Stmt → Bool
  | .asg (.tg (.nm i)) e, .Assign [.Name x px] v _ => mE G N sc e v && (decide (N[i]? = some x) && (locB sc x && (lcNo sc x px v || lcYes sc x px v)))
  | .asg (.tg (.tp ts)) e, .Assign [.Tuple l _ _] v _ => mTs N sc ts l && mA G N sc ts l e v
  | .asg (.sub a i) e, .Assign [.Subscript x y _] v _ => mE G N sc a x && (mE G N sc i y && mE G N sc e v)
  | .aug i op e, .AugAssign (.Name x _) o v _ => decide (o = bopOf op) && (decide (N[i]? = some x) && (locB sc x && mE G N sc e v))
  | .augs a i op e, .AugAssign (.Subscript x y _) o v _ => decide (o = bopOf op) && (mE G N sc a x && (mE G N sc i y && mE G N sc e v))
  | .exp e, .Expr v _ => !isLc v && mE G N sc e v
  | .ret e, .Return (some v) _ => mE G N sc e v
  | .retn, .Return none _ => true
  | .iff c a b, .If x l r _ => tstB c && (mE G N sc c x && (mSs G N sc a l && mSs G N sc b r))
  | .whl c b, .While x l [] _ => tstB c && (mE G N sc c x && mSs G N sc b l)
  | .for tg it b, .For t x l [] _ => mI G N sc it t x && (mT N sc tg t && mSs G N sc b l)
  | .brk, .Break _ => true
  | .cnt, .Continue _ => true
  | .pss, .Pass _ => true
  | .rse c fs fm es, .Raise (some (.Call (.Name g _) (x :: l) [] _)) none _ => decide (c = g) && (decide ((c, fs, fm) ∈ G.xs.m) && (gloB sc g && (plainN g && mEs G N sc es (x :: l))))
  | .tryA b c i h cs, .Try body [.ExceptHandler (some (.Name x _)) (some n) (b0 :: l) _] [] [] _ => decide (c = x) && (catB G.xs sc c && (decide (N[i]? = some n) && (decide (sc.names.lookup n = some .local) && (cmeB G.xs cs && (mHSs G.xs N sc (some i) h (b0 :: l) && mSs G N sc b body)))))
  | .tryO b hs cs, .Try body (h0 :: hds) [] [] _ => cmeB G.xs cs && (mHds G.xs N sc hs (h0 :: hds) && mSs G N sc b body)
  | _, _ => false
def mSs (G : Gt) (N : List Str) (sc : Scope) : Sxs → List Stmt → Bool
  | .nil, [] => true
  | .cons s ss, x :: l => mS G N sc s x && mSs G N sc ss l
  | _, _ => false
end

/-! ### readings -/
structure KsR (X : Cx) (W : WX) (D : Ks) (E : Ends) (S0 : Sto) (H0 : Hp) : Prop where
  nx : ∀ ds S σ H, D.nx ds S → RL X.K H ds σ → RepS X.K S H → Ext S0 H0 S H → E.nx σ H
  rt : ∀ d S v H, D.rt d S → RV X.K H d v → RepS X.K S H → Ext S0 H0 S H → E.rt v H
  bk : ∀ ds S σ H, D.bk ds S → RL X.K H ds σ → RepS X.K S H → Ext S0 H0 S H → E.bk σ H
  ct : ∀ ds S σ H, D.ct ds S → RL X.K H ds σ → RepS X.K S H → Ext S0 H0 S H → E.ct σ H
  ex : ∀ x ds S cls dd σ H, D.ex x ds S → RL X.K H ds σ → RepS X.K S H → Ext S0 H0 S H → RX X.K X.mg H x cls dd → W cls dd σ H
section
variable {X : Cx} {C : Cs} {W : WX} {D : Ks} {E : Ends} {S0 S1 : Sto} {H0 H1 : Hp}
theorem KsR.go (r : KsR X W D E S0 H0) (e : Ext S0 H0 S1 H1) : KsR X W D E S1 H1 :=
  ⟨fun ds S σ H h a b c => r.nx ds S σ H h a b (e.trans c), fun d S v H h a b c => r.rt d S v H h a b (e.trans c), fun ds S σ H h a b c => r.bk ds S σ H h a b (e.trans c), fun ds S σ H h a b c => r.ct ds S σ H h a b (e.trans c),
   fun x ds S cls dd σ H h a b c d => r.ex x ds S cls dd σ H h a b (e.trans c) d⟩
theorem KsR.xk (r : KsR X W D E S0 H0) (rs : RepS X.K S0 H0) {ds : Loc} {σ : L2.St} (rl : RL X.K H0 ds σ) : XKs X W σ S0 H0 (D.at ds) := fun x S' cls dd H' h e rs' rx => r.ex x ds S' cls dd σ H' h (rl.mono (e.stay rs)) rs' e rx
end
def lS (X : Cx) (C : Cs) (W : WX) (s : Sx) : TS := fun E σ H => ∃ ds S D, RL X.K H ds σ ∧ RepS X.K S H ∧ sxW C s ds S D ∧ KsR X W D E S H
def lSs (X : Cx) (C : Cs) (W : WX) (s : Sxs) : TS := fun E σ H => ∃ ds S D, RL X.K H ds σ ∧ RepS X.K S H ∧ sxsW C s ds S D ∧ KsR X W D E S H
theorem _root_.L2.PS.imp {X : Cx} {s : Stmt} {t t' : TS} (h : PS X s t) (hi : ∀ E σ H, t' E σ H → t E σ H) : PS X s t' := ⟨fun pins s σ H E I w => h.run pins s σ H E I (hi E σ H w)⟩
theorem _root_.L2.PSs.imp {X : Cx} {s : List Stmt} {t t' : TS} (h : PSs X s t) (hi : ∀ E σ H, t' E σ H → t E σ H) : PSs X s t' := ⟨fun pins s σ H E I w => h.run pins s σ H E I (hi E σ H w)⟩
structure OkS (p : Prog) (n : Nat) (X : Cx) (W : WX) : Prop where
  ok : Ok p n X
  tk : Takes X W
  lo : LocOk X X.env.scope
  po : PassesOwn (model X.prog X.w) X.A X.env X.xe
  st : X.stack = X.env :: X.outer
  fr : X.env.frame = some X.env.locals
  xc : XcAll X.prog X.w X.K X.mg X.base p.x
section
variable {X : Cx} {C : Cs} {W : WX} {p : Prog} {n : Nat} {G : Gt} {x y z : Expr} {pos : Pos}
theorem _root_.L2.PS.fr {s : Stmt} {t : TS} (h : PS X s t) : PS X s fun E σ H => t ⟨fun σ' H' => frQ (fun _ H'' => E.nx σ' H'') .non H', E.rt, E.bk, E.ct⟩ σ H :=
  ⟨fun pins s σ H E I w => thn (h.run pins s σ H _ I w) fun f s1 q => by
    cases f with
    | next =>
      obtain ⟨σ', H', I2, A, q⟩ := q
      obtain ⟨H2, I3, q2⟩ := inv_lks A I2 q
      exact ⟨σ', H2, I3, q2⟩
    | _ => exact q⟩
theorem lcNo_sw {sc : Scope} {nm : Str} {px : Pos} {v : Expr} {env : Env} (he : env.scope = sc) (h : lcNo sc nm px v = true) (l : Nat) : swapsWith v (some (.Name nm px)) l env = pure false := by
  subst he
  cases v with
  | ListComp el gs s q =>
    have h' : (env.scope.names.lookup nm == some .local && px.line == q.line && !(s.names.any fun (n, k) => n == nm && (k == .local || k == .cell))) = false := by
      unfold lcNo at h
      rwa [Bool.not_eq_true'] at h
    show (pure (env.blockKind == .function && env.scope.names.lookup nm == some .local && px.line == q.line && !(s.names.any fun (n, k) => n == nm && (k == .local || k == .cell))) : Sem Bool) = pure false
    congr 1
    cases hb : (env.blockKind == ScopeKind.function) with
    | false => rfl
    | true => rw [Bool.true_and]; exact h'
  | SetComp _ _ _ _ => cases h
  | DictComp _ _ _ _ _ => cases h
  | _ => rfl
def lGL (K : PySem.W.Frag) (t : Tg) : TG := fun v σ H Q => lG K t v σ H Q ∨ ∃ ds d S Kk ts l, RL K H ds σ ∧ RepS K S H ∧ RV K H d v ∧ t = .tp ts ∧ lst? S d = some l ∧ tgsW ts l ds Kk ∧ ∀ ds' σ', Kk ds' → RL K H ds' σ' → (∀ vs : List Nat, (∀ i ∈ tgV t, i ∈ vs) → L2.wipe σ' vs = L2.wipe σ vs) → Q σ' H
theorem pg_or {X : Cx} {x : Expr} {a b : TG} (h : PG X x a) (k : PG X x b) : PG X x (fun v σ H Q => a v σ H Q ∨ b v σ H Q) :=
  ⟨fun pins s σ H v u Q I r w => w.elim (h.run pins s σ H v u Q I r) (k.run pins s σ H v u Q I r)⟩
theorem st_asg {t : Tg} {e : Ex} (he : PE X x (lE X C W e)) (hg : PG X y (lGL X.K t)) (hs : swapsWithSole [y] x pos.line X.env = pure false) (hw : swappedStores [y] x X.env = pure none) (ha : (assignEach [y] X.env).map (·.2) = [assign y X.env]) :
    PS X (.Assign [y] x pos) (lS X C W (.asg (.tg t) e)) := by
  refine (ps_asg he hg hs hw ha).imp fun E σ H ⟨ds, S, D, rl, rs, k, kr⟩ => ?_
  refine ⟨ds, S, D.at ds, _, rl, rs, k, fun d S1 v H1 k1 e1 rs1 rv => ?_, kr.xk rs rl⟩
  rcases k1 with k1 | ⟨ts, l, ht, hl, k1⟩
  · exact .inl ⟨ds, d, _, rl.mono (e1.stay rs), rv, k1, fun ds' σ' k2 rl2 _ => kr.nx ds' S1 σ' H1 k2 rl2 rs1 e1⟩
  · exact .inr ⟨ds, d, S1, _, ts, l, rl.mono (e1.stay rs), rs1, rv, ht, hl, k1, fun ds' σ' k2 rl2 _ => kr.nx ds' S1 σ' H1 k2 rl2 rs1 e1⟩
theorem st_set {i : Nat} {nm : Str} {e : Ex} {px : Pos} (ok : OkS p n X W) (he : PE X x (lE X C W e)) (hN : X.N[i]? = some nm) (hl : locB X.env.scope nm = true) (hs : lcNo X.env.scope nm px x = true) : PS X (.Assign [.Name nm px] x pos) (lS X C W (.asg (.tg (.nm i)) e)) :=
  st_asg he ((g_nm ok.ok ok.lo hN hl).imp fun v σ H Q w => w.elim id fun ⟨_, _, _, _, _, _, _, _, _, e, _⟩ => nomatch e) (lcNo_sw rfl hs pos.line) (ss_nm rfl _) rfl
/-- x = [.. for ..] with the store folded in -/
theorem st_setL {i : Nat} {nm : Str} {px : Pos} {elt : Ex} {tg : Tg} {it : It} {c : Oe} {vs : List Nat} (hG : GOk G p) (ok : OkS p n X W) (h : mE G X.N X.env.scope (.lc elt tg it c vs) x = true) (hN : X.N[i]? = some nm) (hs : lcYes X.env.scope nm px x = true) :
    PS X (.Assign [.Name nm px] x pos) (lS X (callC p n) W (.asg (.tg (.nm i)) (.lc elt tg it c vs))) := by
  cases x with
  | ListComp x gs s q =>
    unfold lcYes at hs
    simp only [Bool.and_eq_true, decide_eq_true_eq, Bool.not_eq_true'] at hs
    obtain ⟨hk, hloc, hline, hown⟩ := hs
    have hk' : X.env.scope.kind = .function := by
      unfold fnB at hk
      split at hk <;> first | assumption | cases hk
    rcases gs with _ | ⟨⟨t, i', cs, a⟩, _ | ⟨g2, gs⟩⟩
    · simp [mE] at h
    · cases a with
      | ofNat a =>
        cases a with
        | succ a => unfold mE at h; split at h <;> first | (cases h; done) | (rename_i e; cases e; done)
        | zero =>
          have h : mE G X.N X.env.scope (.lc elt tg it c vs) (.ListComp x [⟨t, i', cs, 0⟩] s q) = true := h
          simp only [mE, Bool.and_eq_true] at h
          obtain ⟨h1, h2, h3, h4, h5, h6⟩ := h
          have own : (ownOf X.N vs).map (fun x => x.2) = vs := by unfold ownOf; rw [List.map_map]; exact List.map_id _
          have hv := tgs_all h2
          have r := ps_setLc (g := lG X.K tg) (tt := lC X (callC p n) c) (te := lE X (callC p n) (fun _ _ _ _ => False) elt) (spos := pos) (py := px) ok.ok.calm ok.ok.nd hN hloc (sw_true hk' hloc hline hown) (i_ok hG it X W t i' ok.ok ok.tk h3) (blkOk_by h1)
            (fun s' H A cl fp => g_ok (ok.ok.blk s' H s _ fp) loc_blk tg t h4)
            (fun s' H A cl fp => c_ok hG c (X.blk s' H s (compEnvC s cl A X.env) fp) cs (ok.ok.blk s' H s _ fp) takes0 h5)
            (fun s' H A cl fp => e_ok hG elt (X.blk s' H s (compEnvC s cl A X.env) fp) _ x (ok.ok.blk s' H s _ fp) takes0 h6) (pos := q) (mI_fold h3 X.env)
          rw [own] at r
          refine (PS.fr r).imp fun E σ H ⟨ds, S, D, rl, rs, k, kr⟩ => ?_
          have aft : Aft X.K S H (fun d S1 => taW S1 (.nm i) d ds fun σ' => D.nx σ' S1) (fun v H1 => gName i v σ H1 E.nx) := fun d S1 v H1 k1 e1 rs1 rv => kr.nx _ S1 _ H1 (k1.elim id fun ⟨_, _, e, _⟩ => nomatch e) ((rl.mono (e1.stay rs)).set i rv) rs1 e1
          exact ⟨ds, S, D.at ds, _, rl, rs, k, fun l chk S1 J H1 k1 e1 rs1 io => tLc_ok rl rs e1 rs1 hv io aft k1, kr.xk rs rl⟩
      | negSucc a => simp [mE] at h
    · simp [mE] at h
  | _ => simp [lcYes] at hs
theorem st_par2 {i j : Nat} {nx ny : Str} {es : Exs} {px py pt pt2 : Pos} {kt k2 : Nat} (ok : OkS p n X W) (ha : PA X [x, y] (lEs X C W es)) (hi : X.N[i]? = some nx) (hj : X.N[j]? = some ny)
    (h : par2 X.N X.env.scope (.cons (.nm i) (.cons (.nm j) .nil)) [.Name nx px, .Name ny py] [x, y] = true) :
    PS X (.Assign [.Tuple [.Name nx px, .Name ny py] kt pt] (.Tuple [x, y] k2 pt2) pos) (lS X C W (.asg (.tg (.tp (.cons (.nm i) (.cons (.nm j) .nil)))) (.tup es))) := by
  simp only [par2, Bool.and_eq_true, decide_eq_true_eq] at h
  obtain ⟨hij, h1, h2, h3⟩ := h
  refine (ps_par ok.ok.calm ok.ok.nd hi hj hij h1 h2 ha (ss_some h3)).imp fun E σ H ⟨ds, S, DD, rl, rs, k, kr⟩ => ?_
  refine ⟨ds, S, DD.at ds, _, rl, rs, k, fun l S1 vs H1 ⟨_, k1⟩ e1 rs1 rvs => ?_, kr.xk rs rl⟩
  have k1 := k1.resolve_right fun ⟨_, _, _, e, _⟩ => nomatch e
  cases rvs with
  | nil => exact k1.elim
  | cons r1 r =>
    cases r with
    | nil => exact k1.elim
    | cons r2 r =>
      cases r with
      | nil => exact ⟨_, _, rfl, kr.nx _ S1 _ H1 k1 (((rl.mono (e1.stay rs)).set i r1).set j r2) rs1 e1⟩
      | cons _ _ => exact k1.elim
theorem st_par3 {i j l : Nat} {nx ny nz : Str} {es : Exs} {px py pz pt pt2 : Pos} {kt k2 : Nat} (ok : OkS p n X W) (ha : PA X [x, y, z] (lEs X C W es)) (hi : X.N[i]? = some nx) (hj : X.N[j]? = some ny) (hl : X.N[l]? = some nz)
    (h : par2 X.N X.env.scope (.cons (.nm i) (.cons (.nm j) (.cons (.nm l) .nil))) [.Name nx px, .Name ny py, .Name nz pz] [x, y, z] = true) :
    PS X (.Assign [.Tuple [.Name nx px, .Name ny py, .Name nz pz] kt pt] (.Tuple [x, y, z] k2 pt2) pos) (lS X C W (.asg (.tg (.tp (.cons (.nm i) (.cons (.nm j) (.cons (.nm l) .nil))))) (.tup es))) := by
  simp only [par2, Bool.and_eq_true, decide_eq_true_eq] at h
  obtain ⟨⟨h1, h2, h3⟩, h4, h5, h6, h7⟩ := h
  refine (ps_par3 ok.ok.calm ok.ok.nd hi hj hl h1 h2 h3 h4 h5 h6 ha (ss_some h7)).imp fun E σ H ⟨ds, S, DD, rl, rs, k, kr⟩ => ?_
  refine ⟨ds, S, DD.at ds, _, rl, rs, k, fun l' S1 vs H1 ⟨_, k1⟩ e1 rs1 rvs => ?_, kr.xk rs rl⟩
  have k1 := k1.resolve_right fun ⟨_, _, _, e, _⟩ => nomatch e
  cases rvs with
  | nil => exact k1.elim
  | cons r1 r =>
    cases r with
    | nil => exact k1.elim
    | cons r2 r =>
      cases r with
      | nil => exact k1.elim
      | cons r3 r =>
        cases r with
        | nil => exact ⟨_, _, _, rfl, kr.nx _ S1 _ H1 k1 ((((rl.mono (e1.stay rs)).set i r1).set j r2).set l r3) rs1 e1⟩
        | cons _ _ => exact k1.elim
theorem st_sub {a i e : Ex} {q : Pos} (ok : OkS p n X W) (ho : PE X x (lE X C W a)) (hi : PE X y (lE X C W i)) (he : PE X z (lE X C W e)) (hs : isSl y = false) : PS X (.Assign [.Subscript x y q] z pos) (lS X C W (.asg (.sub a i) e)) := by
  refine (ps_asg he (pg_sub ho hi (set_any ok.ok.hu) (fun v => by cases y <;> first | rfl | cases hs)) (sw_sub (o := x) (i := y) (q := q) pos.line X.env) (ss_sub (o := x) (i := y) (q := q) X.env) rfl).imp fun E σ H ⟨ds, S, DD, rl, rs, k, kr⟩ => ?_
  refine ⟨ds, S, DD.at ds, _, rl, rs, k, fun d S1 v H1 k1 e1 rs1 rv => ?_, kr.xk rs rl⟩
  refine s_two (R := fun o i H2 => rSub X.K o i v H2 _) (rl.mono (e1.stay rs)) rs1 k1 ((kr.xk rs rl).go e1) fun o k S2 ov kv H2 k2 e2 rs2 r1 r2 => ?_
  refine ⟨o, k, d, S2, _, r1, r2, rv.mono (e2.stay rs1), rs2, k2, fun S3 H3 k3 e3 rs3 => ?_⟩
  exact kr.nx ds S3 σ H3 k3 (rl.mono (((e1.trans e2).trans e3).stay rs)) rs3 ((e1.trans e2).trans e3)
theorem st_aug {i : Nat} {nm : Str} {op : Bop} {e : Ex} {q : Pos} (ok : OkS p n X W) (he : PE X x (lE X C W e)) (hN : X.N[i]? = some nm) (hl : locB X.env.scope nm = true) : PS X (.AugAssign (.Name nm q) (bopOf op) x pos) (lS X C W (.aug i op e)) := by
  refine (ps_aug ok.ok.nd hN (ok.lo nm hl).1 he (op_aug op) (ok.lo nm hl).2).imp fun E σ H ⟨ds, S, DD, rl, rs, ⟨d, ed, k⟩, kr⟩ => ?_
  obtain ⟨v, ev, rv⟩ := rl.2 i d ed
  refine ⟨v, ev, ds, S, DD.at ds, _, rl, rs, k, fun f S1 w H1 k1 e1 rs1 rw' => ?_, kr.xk rs rl⟩
  refine ⟨d, f, S1, _, rv.mono (e1.stay rs), rw', rs1, k1, fun g S2 u H2 k2 e2 rs2 ru => ?_⟩
  exact kr.nx _ S2 _ H2 k2 ((rl.mono ((e1.trans e2).stay rs)).set i ru) rs2 (e1.trans e2)
theorem st_augs {a i e : Ex} {op : Bop} {q : Pos} (ok : OkS p n X W) (ho : PE X x (lE X C W a)) (hi : PE X y (lE X C W i)) (he : PE X z (lE X C W e)) (hs : isSl y = false) : PS X (.AugAssign (.Subscript x y q) (bopOf op) z pos) (lS X C W (.augs a i op e)) := by
  refine (ps_augS ho hi (get_any ok.ok.hu) he (op_aug op) (set_any ok.ok.hu) (fun _ _ _ => by cases y <;> first | rfl | cases hs)).imp fun E σ H ⟨ds, S, DD, rl, rs, k, kr⟩ => ?_
  refine s_two (R := fun o i H2 => rIdx X.K o i H2 _) rl rs k (kr.xk rs rl) fun o k S2 ov kv H2 k2 e2 rs2 r1 r2 => ?_
  refine ⟨o, k, S2, _, r1, r2, rs2, k2, fun d v k3 rv => ?_⟩
  refine ⟨ds, S2, DD.at ds, _, rl.mono (e2.stay rs), rs2, k3, fun f S3 w H3 k4 e3 rs3 rw' => ?_, (kr.xk rs rl).go e2⟩
  refine ⟨d, f, S3, _, rv.mono (e3.stay rs2), rw', rs3, k4, fun g S4 u H4 k5 e4 rs4 ru => ?_⟩
  have st := (e3.trans e4).stay rs2
  refine ⟨o, k, g, S4, _, r1.mono st, r2.mono st, ru, rs4, k5, fun S5 H5 k6 e5 rs5 => ?_⟩
  have ee := ((e2.trans e3).trans e4).trans e5
  exact kr.nx ds S5 σ H5 k6 (rl.mono (ee.stay rs)) rs5 ee
theorem st_exp {e : Ex} (he : PE X x (lE X C W e)) (hs : isLc x = false) : PS X (.Expr x pos) (lS X C W (.exp e)) := by
  refine (ps_expr he (sw_no hs _ _ _)).imp fun E σ H ⟨ds, S, DD, rl, rs, k, kr⟩ => ?_
  exact ⟨ds, S, DD.at ds, _, rl, rs, k, fun d S1 v H1 k1 e1 rs1 rv => kr.nx ds S1 σ H1 k1 (rl.mono (e1.stay rs)) rs1 e1, kr.xk rs rl⟩
theorem st_ret {e : Ex} (he : PE X x (lE X C W e)) : PS X (.Return (some x) pos) (lS X C W (.ret e)) := by
  refine (ps_ret (PE.fr he)).imp fun E σ H ⟨ds, S, DD, rl, rs, k, kr⟩ => ?_
  exact ⟨ds, S, DD.at ds, _, rl, rs, k, fun d S1 v H1 k1 e1 rs1 rv => fr_end rs1 rv k1 fun d' S' H' k2 r2 rs2 e2 => kr.rt d' S' v H' k2 r2 rs2 (e1.trans e2), kr.xk rs rl⟩
theorem st_retn : PS X (.Return none pos) (lS X C W .retn) := ps_retN.imp fun E σ H ⟨ds, S, DD, rl, rs, k, kr⟩ => kr.rt _ S _ H k .non rs Ext.refl
theorem st_brk : PS X (.Break pos) (lS X C W .brk) := ps_break.imp fun E σ H ⟨ds, S, DD, rl, rs, k, kr⟩ => kr.bk ds S σ H k rl rs Ext.refl
theorem st_cnt : PS X (.Continue pos) (lS X C W .cnt) := ps_continue.imp fun E σ H ⟨ds, S, DD, rl, rs, k, kr⟩ => kr.ct ds S σ H k rl rs Ext.refl
theorem st_pss : PS X (.Pass pos) (lS X C W .pss) := ps_pass.imp fun E σ H ⟨ds, S, DD, rl, rs, k, kr⟩ => kr.nx ds S σ H k rl rs Ext.refl
theorem st_iff {c : Ex} {a b : Sxs} {l r : List Stmt} (hc : PT X x (lT X C W c)) (ha : PSs X l (lSs X C W a)) (hb : PSs X r (lSs X C W b)) : PS X (.If x l r pos) (lS X C W (.iff c a b)) := by
  refine (ps_if hc ha hb).imp fun E σ H ⟨ds, S, DD, rl, rs, k, kr⟩ => ?_
  refine ⟨ds, S, DD.at ds, _, rl, rs, k, fun d S1 H1 ⟨t, et, k1⟩ e1 rs1 => ⟨t, et, ?_⟩, kr.xk rs rl⟩
  cases t with
  | true =>
    rw [if_pos rfl] at k1 ⊢
    exact ⟨ds, S1, DD, rl.mono (e1.stay rs), rs1, k1, kr.go e1⟩
  | false =>
    rw [if_neg Bool.false_ne_true] at k1 ⊢
    exact ⟨ds, S1, DD, rl.mono (e1.stay rs), rs1, k1, kr.go e1⟩
theorem st_whl {c : Ex} {b : Sxs} {l : List Stmt} (ok : OkS p n X W) (hc : PT X x (lT X C W c)) (hb : PSs X l (lSs X C W b)) : PS X (.While x l [] pos) (lS X C W (.whl c b)) := by
  refine (ps_while ok.po hc hb).imp fun E σ H ⟨ds, S, DD, rl, rs, ⟨Wd, ⟨m, h0⟩, step⟩, kr⟩ => ?_
  refine ⟨fun m σ' H' => ∃ ds' S', RL X.K H' ds' σ' ∧ RepS X.K S' H' ∧ Ext S H S' H' ∧ Wd m ds' S', ⟨m, ds, S, rl, rs, Ext.refl, h0⟩, ?_⟩
  rintro m σ1 H1 ⟨ds1, S1, rl1, rs1, e1, h1⟩
  refine ⟨ds1, S1, DD.at ds1, _, rl1, rs1, step m ds1 S1 h1, fun d S2 H2 ⟨t, et, k2⟩ e2 rs2 => ⟨t, et, ?_⟩, (kr.go e1).xk rs1 rl1⟩
  cases t with
  | false =>
    rw [if_neg Bool.false_ne_true] at k2 ⊢
    exact kr.nx ds1 S2 σ1 H2 k2 (rl1.mono (e2.stay rs1)) rs2 (e1.trans e2)
  | true =>
    rw [if_pos rfl] at k2 ⊢
    refine ⟨fun σ' H' => ∃ m', m' < m ∧ ∃ ds' S', RL X.K H' ds' σ' ∧ RepS X.K S' H' ∧ Ext S H S' H' ∧ Wd m' ds' S', fun σ' H' h => h, ds1, S2, _, rl1.mono (e2.stay rs1), rs2, k2, ?_⟩
    have ee := e1.trans e2
    exact ⟨fun ds S σ H ⟨m', hm, hw⟩ a b e => ⟨m', hm, ds, S, a, b, ee.trans e, hw⟩, (kr.go ee).rt, fun ds S σ H h a b e => kr.nx ds S σ H h a b (ee.trans e), fun ds S σ H ⟨m', hm, hw⟩ a b e => ⟨m', hm, ds, S, a, b, ee.trans e, hw⟩, (kr.go ee).ex⟩
theorem st_for {tg : Tg} {it : It} {b : Sxs} {l : List Stmt} (ok : OkS p n X W) (hi : PI X x y (lI X C W it)) (hg : PG X x (lG X.K tg)) (hb : PSs X l (lSs X C W b)) (hf : ∀ v, foldedSetIterable y X.env v = pure v) : PS X (.For x y l [] pos) (lS X C W (.for tg it b)) := by
  refine (ps_for ok.po ok.ok.calm hi hg hb hf).imp fun E σ H ⟨ds, S, DD, rl, rs, k, kr⟩ => ?_
  refine ⟨ds, S, DD.at ds, _, rl, rs, k, fun li chk S1 J H1 k1 e1 rs1 io => ?_, kr.xk rs rl⟩
  let body : D → Loc → Sto → (Loc → Sto → Prop) → Prop := fun d σ S K => tgW tg d σ fun σ' => sxsW C b σ' S { DD with nx := K, ct := K, bk := DD.nx }
  have k1 : forW chk body li ds S1 DD.nx := k1
  let Pv : Nat → L2.St → Hp → Prop := fun i σ' H' => ∃ ds' S', RL X.K H' ds' σ' ∧ RepS X.K S' H' ∧ Ext S1 H1 S' H' ∧ forW chk body (li.drop i) ds' S' DD.nx
  refine ⟨fun i m σ' H' => m = li.length - i ∧ i ≤ li.length ∧ Pv i σ' H', ⟨li.length, by simp, Nat.zero_le _, ds, S1, rl.mono (e1.stay rs), rs1, Ext.refl, by rw [List.drop_zero]; exact k1⟩, ?_⟩
  rintro i m σ2 H2 ⟨rfl, hi, ds2, S2, rl2, rs2, e2, k2⟩
  by_cases hlt : i < li.length
  · rw [List.drop_eq_getElem_cons hlt] at k2
    obtain ⟨hc, k2⟩ := k2
    refine .inr ⟨io.go i S2 H2 hlt rs2 hc e2, Pv (i + 1), fun σ' H' h => ⟨li.length - (i + 1), by omega, rfl, hlt, h⟩, fun v H3 yv => ?_⟩
    obtain ⟨d, ed, rd, e3, rs3⟩ := io.yld i S2 H2 v H3 hlt rs2 hc e2 yv
    rw [List.getElem?_eq_getElem hlt] at ed
    cases ed
    refine ⟨ds2, _, _, rl2.mono (e3.stay rs2), rd, k2, fun ds3 σ3 k3 rl3 _ => ?_⟩
    refine ⟨ds3, S2, _, rl3, rs3, k3, ?_⟩
    have ee := e2.trans e3
    have e0 := e1.trans ee
    exact ⟨fun ds S σ H h a b e => ⟨ds, S, a, b, ee.trans e, h⟩, (kr.go e0).rt, (kr.go e0).nx, fun ds S σ H h a b e => ⟨ds, S, a, b, ee.trans e, h⟩, (kr.go e0).ex⟩
  · have ei : i = li.length := by omega
    subst ei
    rw [List.drop_length] at k2
    obtain ⟨hc, k2⟩ := k2
    exact .inl ⟨io.stop S2 H2 rs2 hc e2, kr.nx ds2 S2 σ2 H2 k2 rl2 rs2 (e1.trans e2)⟩
theorem st_nil : PSs X [] (lSs X C W .nil) := pss_nil.imp fun E σ H ⟨ds, S, DD, rl, rs, k, kr⟩ => kr.nx ds S σ H k rl rs Ext.refl
theorem st_cons {s : Sx} {ss : Sxs} {a : Stmt} {r : List Stmt} (h1 : PS X a (lS X C W s)) (h2 : PSs X r (lSs X C W ss)) : PSs X (a :: r) (lSs X C W (.cons s ss)) := by
  refine (pss_cons h1 h2).imp fun E σ H ⟨ds, S, DD, rl, rs, k, kr⟩ => ?_
  exact ⟨ds, S, _, rl, rs, k, fun ds1 S1 σ1 H1 k1 rl1 rs1 e1 => ⟨ds1, S1, DD, rl1, rs1, k1, kr.go e1⟩, kr.rt, kr.bk, kr.ct, kr.ex⟩
end
end Ev
set_option Elab.async false
set_option linter.all false
set_option maxRecDepth 100000
set_option maxHeartbeats 4000000
/-! EvXt: raise; try. -/
namespace Ev
open PySem PySem.Spec PyProof.Rows L2

/-! ### the suite's statements -/
structure HsR (X : Cx) (x : Xc) (o : Option Nat) (a ad : Addr) (D : Ks) (E : Ends) (S0 : Sto) (H0 : Hp) : Prop where
  nx : ∀ ds S σ H, D.nx ds S → RL X.K H ds σ → RepS X.K S H → Ext S0 H0 S H → HoldR X.K x o a ad σ H → E.nx σ H
  rt : ∀ d S v H, D.rt d S → RV X.K H d v → RepS X.K S H → Ext S0 H0 S H → E.rt v H
theorem HsR.go {X : Cx} {x : Xc} {o : Option Nat} {a ad : Addr} {D : Ks} {E : Ends} {S0 S1 : Sto} {H0 H1 : Hp} (r : HsR X x o a ad D E S0 H0) (e : Ext S0 H0 S1 H1) : HsR X x o a ad D E S1 H1 :=
  ⟨fun ds S σ H h a b c => r.nx ds S σ H h a b (e.trans c), fun d S v H h a b c => r.rt d S v H h a b (e.trans c)⟩
def hS (X : Cx) (x : Xc) (o : Option Nat) (a ad : Addr) (h : Hs) : TS := fun E σ H => ∃ ds S D, RL X.K H ds σ ∧ RepS X.K S H ∧ HoldR X.K x o a ad σ H ∧ hsW x h ds S D ∧ HsR X x o a ad D E S H
def hSs (X : Cx) (x : Xc) (o : Option Nat) (a ad : Addr) (h : Hss) : TS := fun E σ H => ∃ ds S D, RL X.K H ds σ ∧ RepS X.K S H ∧ HoldR X.K x o a ad σ H ∧ hssW x h ds S D ∧ HsR X x o a ad D E S H
theorem set_other {σ : L2.St} {i j : Nat} {u : Option V} (h : i ≠ j) : (σ.set i u)[j]? = σ[j]? := List.getElem?_set_ne h
section
variable {X : Cx} {xs : Xt} {x : Xc} {o : Option Nat} {a C ad : Addr} {oe : Obj} {pn : List (Addr × Obj)} (K : SOk X xs x C a ad oe) (nd : X.N.Nodup) (lo : LocOk X X.env.scope)
include K nd lo
mutual
theorem hs_ok : ∀ (h : Hs) (y : Stmt), mHS xs X.N X.env.scope o h y = true → PS (X.suite a ((a, oe) :: pn)) y (hS X x o a ad h)
  | .ret e, y, h => by
    cases y with
    | Return v p =>
      cases v with
      | none => simp [mHS] at h
      | some v =>
        simp only [mHS] at h
        exact (ps_ret (hx_ok K e v h)).imp fun E σ H ⟨ds, S, D, rl, rs, ho, ⟨d, e1, k⟩, kr⟩ => ⟨ds, S, d, rl, rs, ho, e1, fun v H' rv x1 rs1 => kr.rt d S v H' k rv rs1 x1⟩
    | _ => simp [mHS] at h
  | .iff c p q, y, h => by
    cases y with
    | If u l r pos =>
      simp only [mHS, Bool.and_eq_true] at h
      refine (ps_if (ht_ok K c u h.1 h.2.1) (hss_ok p l h.2.2.1) (hss_ok q r h.2.2.2)).imp fun E σ H ⟨ds, S, D, rl, rs, ho, ⟨d, e1, k, e2, hk⟩, kr⟩ => ?_
      refine ⟨ds, S, d, k, rl, rs, ho, e1, e2, fun H1 x1 rs1 => ?_⟩
      cases k with
      | true =>
        rw [if_pos rfl] at hk ⊢
        exact ⟨ds, S, D, rl.mono (x1.stay rs), rs1, ho.go rs x1, hk, kr.go x1⟩
      | false =>
        rw [if_neg Bool.false_ne_true] at hk ⊢
        exact ⟨ds, S, D, rl.mono (x1.stay rs), rs1, ho.go rs x1, hk, kr.go x1⟩
    | _ => simp [mHS] at h
  | .asg i e, y, h => by
    cases y with
    | Assign l v pos =>
      rcases l with _ | ⟨t, _ | ⟨t2, l⟩⟩
      · simp [mHS] at h
      · cases t with
        | Name nm px =>
          simp only [mHS, Bool.and_eq_true, decide_eq_true_eq] at h
          obtain ⟨h0, h1, h2, h3, h4⟩ := h
          refine (ps_asg (hx_ok K e v h4) (pg_name (X := X.suite a ((a, oe) :: pn)) nd h1 (lo nm h2).1 (lo nm h2).2) (lcNo_sw (env := X.env) rfl h3 pos.line) (ss_nm rfl _) rfl).imp fun E σ H ⟨ds, S, D, rl, rs, ho, ⟨d, e1, k⟩, kr⟩ => ?_
          refine ⟨ds, S, d, rl, rs, ho, e1, fun v H' rv x1 rs1 => ?_⟩
          have h' := ho.go rs x1
          exact kr.nx _ S _ H' k ((rl.mono (x1.stay rs)).set i rv) rs1 x1 ⟨fun j hj => by rw [set_other (fun z => h0 (by rw [hj, z]))]; exact h'.slot j hj, h'.fs⟩
        | _ => simp [mHS] at h
      · cases t <;> simp [mHS] at h
    | _ => simp [mHS] at h
theorem hss_ok : ∀ (h : Hss) (y : List Stmt), mHSs xs X.N X.env.scope o h y = true → PSs (X.suite a ((a, oe) :: pn)) y (hSs X x o a ad h)
  | .nil, y, h => by
    cases y with
    | nil => exact (pss_nil (X := X.suite a ((a, oe) :: pn))).imp fun E σ H ⟨ds, S, D, rl, rs, ho, k, kr⟩ => kr.nx ds S σ H k rl rs Ext.refl ho
    | cons _ _ => simp [mHSs] at h
  | .cons s ss, y, h => by
    cases y with
    | nil => simp [mHSs] at h
    | cons y l =>
      simp only [mHSs, Bool.and_eq_true] at h
      refine (pss_cons (hs_ok s y h.1) (hss_ok ss l h.2)).imp fun E σ H ⟨ds, S, D, rl, rs, ho, k, kr⟩ => ?_
      exact ⟨ds, S, _, rl, rs, ho, k, fun ds1 S1 σ1 H1 k1 rl1 rs1 e1 ho1 => ⟨ds1, S1, D, rl1, rs1, ho1, k1, kr.go e1⟩, kr.rt⟩
end
end

/-! ### raise -/
theorem zip_rv {K : PySem.W.Frag} {H : Hp} : ∀ {fs : List Str} {l : List D} {vs : List V} {f : Str} {d : D}, RVs K H l vs → (f, d) ∈ fs.zip l → ∃ v, (f, v) ∈ fs.zip vs ∧ RV K H d v
  | [], _, _, _, _, _, h => by cases h
  | _ :: _, [], _, _, _, _, h => by cases h
  | g :: fs, e :: l, _, f, d, .cons r rr, h => by
    rcases List.mem_cons.1 h with z | z
    · cases z
      exact ⟨_, List.mem_cons_self, r⟩
    · obtain ⟨v, h1, h2⟩ := zip_rv rr z
      exact ⟨v, List.mem_cons_of_mem _ h1, h2⟩
theorem rvs_fmt {K : PySem.W.Frag} {H : Hp} : ∀ {l : List D} {vs : List V}, RVs K H l vs → l.all fmtD = true → ∀ w ∈ vs, ∃ y, FmtV w y
  | [], [], _, _, _, h => by cases h
  | d :: l, v :: vs, .cons r rr, h, w, hw => by
    rw [List.all_cons, Bool.and_eq_true] at h
    rcases List.mem_cons.1 hw with rfl | z
    · exact fmt_of r h.1
    · exact rvs_fmt rr h.2 w z
theorem made_heap {H1 : Hp} {a dx : Addr} {o1 o2 o3 o4 : HO} (hn : H1 a = none) (ne : dx ≠ a) : L2.upd (L2.del (L2.upd (L2.upd (L2.upd H1 a o1) dx o2) a o3) a) dx o4 = L2.upd H1 dx o4 := by
  funext b
  by_cases h : b = dx
  · rw [h, upd_same, upd_same]
  · rw [upd_ne h, upd_ne h]
    by_cases k : b = a
    · rw [k, del_same, hn]
    · rw [del_ne k, upd_ne k, upd_ne h, upd_ne k]
section
variable {X : Cx} {C : Cs} {W : WX} {p : Prog} {n : Nat} {y : Expr} {l : List Expr} {pos p1 p2 : Pos}
theorem st_rse {c : Str} {fs : List Str} {fm : Bool} {es : Exs} (ok : OkS p n X W) (hm : (c, fs, fm) ∈ p.x.m) (hg : gloB X.env.scope c = true) (hp : plainN c = true) (ha : PA X (y :: l) (lEs X C W es)) (hs : isStar y = false) (pl : Pl X l) :
    PS X (.Raise (some (.Call (.Name c p1) (y :: l) [] p2)) none pos) (lS X C W (.rse c fs fm es)) := by
  obtain ⟨Cc, fI, fd, ps, mc, T, iC, tI, hb, hf, F⟩ := ok.xc.made c fs fm hm
  have hx : Passes (L2.CX X.prog X.w) X (fun _ _ _ => False) := passes_call ok.tk fun _ _ _ _ z => z.elim
  refine (ps_raise ok.ok.calm ok.tk (pmk_oex (k := n + 1) T iC tI (F n) ok.ok.room hb .nil hx (gl_of hg) mc ha (not_debug hp) (star_cons hs) (pl.any p2))).imp fun E σ H ⟨ds, S, D, rl, rs, k, kr⟩ => ?_
  refine ⟨ds, S, D.at ds, _, rl, rs, k, fun l S1 vs H1 ⟨h1, h2, h3⟩ e1 rs1 rvs => ?_, kr.xk rs rl⟩
  have hl : vs.length = fs.length := by rw [← rvs.len, h1]
  refine ⟨by omega, fun a hn => ?_⟩
  rw [List.append_nil]
  refine ⟨a, vs, rfl, hl, upd_same, fun hfm => rvs_fmt rvs (h2 hfm), fun dx FS hd ne hF => ?_⟩
  have hd1 : H1 dx = none := by rw [upd_ne ne] at hd; exact hd
  refine ⟨rfl, dx, FS, upd_same, by rw [upd_ne ne, upd_same], hd1, ?_⟩
  rw [made_heap hn ne]
  refine kr.ex _ ds S1 _ _ σ _ h3 ((rl.mono (e1.stay rs)).mono (stay_new hd1)) (rs1.free hd1) (e1.trans (Ext.free rs1 hd1)) ⟨Cc, dx, FS, mc, rfl, rfl, upd_same, fun f d m => ?_⟩
  obtain ⟨v, h4, h5⟩ := zip_rv rvs m
  exact ⟨v, hF _ h4, h5.mono (stay_new hd1)⟩

/-! ### try -/
theorem RL.hide {K : PySem.W.Frag} {H : Hp} {ds : Loc} {σ : L2.St} (r : RL K H ds σ) (i : Nat) (u : Option V) : RL K H (ds.set i none) (σ.set i u) := by
  refine ⟨by rw [List.length_set, List.length_set]; exact r.1, fun j x e => ?_⟩
  by_cases h : i = j
  · subst h
    by_cases hl : i < ds.length
    · rw [List.getElem?_set_self hl] at e
      cases e
    · rw [List.getElem?_eq_none (by rw [List.length_set]; omega)] at e
      cases e
  · rw [List.getElem?_set_ne h] at e ⊢
    exact r.2 j x e
def tsA (X : Cx) (xs : Xt) (i : Nat) (h : Hss) : Addr → Value → Option Addr → TS := fun a cls d E σ H => ∃ (x : Xc) (C ad : Addr) (σ0 : L2.St), XcD X.K X.mg xs x.cls C ∧ cls = .ref C ∧ d = some ad ∧ σ = σ0.set i (some (.ref a)) ∧ (i < σ0.length → hSs X x (some i) a ad h E σ H)
def tsO (X : Cx) (xs : Xt) (h : Hss) : Addr → Value → Option Addr → TS := fun a cls d E σ H => ∃ (x : Xc) (C ad : Addr), XcD X.K X.mg xs x.cls C ∧ cls = .ref C ∧ d = some ad ∧ hSs X x none a ad h E σ H
theorem cls_at {c : Str} {cs : List Str} (ok : OkS p n X W) (hc : catB p.x X.env.scope c = true) (hcs : cmeB p.x cs = true) : ∃ Dc, X.mg c = some (.ref Dc) ∧ Names X c (.ref Dc) ∧ ∀ x C, XcD X.K X.mg p.x x C → PySem.W.exmOne X.K (.ref C) (.ref Dc) = some (subC x c) := by
  unfold catB at hc
  unfold cmeB at hcs
  simp only [Bool.and_eq_true, Bool.or_eq_true, decide_eq_true_eq, Bool.not_eq_true', List.all_eq_true] at hc hcs
  obtain ⟨hg, hp, hc⟩ := hc
  obtain ⟨h1, h2⟩ := hcs
  cases cs with
  | nil => cases h1
  | cons c0 cs =>
    obtain ⟨C0, F⟩ := ok.xc.fc c0 (h2 c0 List.mem_cons_self)
    obtain ⟨D, hD, _⟩ := F.sub c hc
    refine ⟨D, hD, ⟨gl_of hg, not_debug hp, .inl hD⟩, fun x C F' => ?_⟩
    obtain ⟨D', hD', e, _⟩ := F'.sub c hc
    rw [hD] at hD'
    cases hD'
    exact e
theorem cls_in {c : Str} {cs : List Str} (ok : OkS p n X W) (hcs : cmeB p.x cs = true) (h : c ∈ cs) : ∃ C, XcD X.K X.mg p.x c C := by
  unfold cmeB at hcs
  simp only [Bool.and_eq_true, decide_eq_true_eq, List.all_eq_true] at hcs
  exact ok.xc.fc c (hcs.2 c h)
theorem st_tryA {b : Sxs} {c nm : Str} {i : Nat} {h : Hss} {cs : List Str} {body suite : List Stmt} {b0 : Stmt} (ok : OkS p n X W) (hc : catB p.x X.env.scope c = true) (hcs : cmeB p.x cs = true) (hN : X.N[i]? = some nm) (hl : X.env.scope.names.lookup nm = some .local)
    (hh : mHSs p.x X.N X.env.scope (some i) h (b0 :: suite) = true)
    (hb : ∀ (W : WX) (pn : List (Addr × Obj)) (xe : Value → Shared → Prop), Takes (X.tr pn xe) W → PassesOwn (model X.prog X.w) X.A X.env xe → PSs (X.tr pn xe) body (lSs X C W b)) :
    PS X (.Try body [.ExceptHandler (some (.Name c p1)) (some nm) (b0 :: suite) p2] [] [] pos) (lS X C W (.tryA b c i h cs)) := by
  obtain ⟨Dc, hD, hNm, hx⟩ := cls_at ok hc hcs
  refine (ps_try_as (X := X) (tb := fun W' => lSs X C W' b) (ts := tsA X p.x i h) (Wout := W) ok.st ok.fr ok.ok.nd hN hl hNm ok.tk hb fun a oe cls d pn hz hf => ?_).imp fun E σ H ⟨ds, S, D, rl, rs, k, kr⟩ => ?_
  · refine ⟨fun pins s σ H E I ⟨x, Cx, ad, σ0, F, e1, e2, e3, q⟩ => ?_⟩
    subst e1 e2
    have hlt : i < σ0.length := by
      have z : σ.length = X.N.length := I.len
      rw [e3, List.length_set] at z
      rw [z]
      exact (List.getElem?_eq_some_iff.1 hN).1
    exact (hss_ok (X := X) ⟨F, ok.ok.bi, hz, hf, ok.ok.hu⟩ ok.ok.nd ok.lo h _ hh).run pins s σ H E I (q hlt)
  · refine ⟨ds, S, _, rl, rs, k, kr.nx, kr.rt, kr.bk, kr.ct, fun x ds1 S1 cls dd σ1 H1 ⟨hi, k1⟩ rl1 rs1 x1 rx => ?_⟩
    obtain ⟨F0, F⟩ := cls_in ok hcs hi
    obtain ⟨Cx, ad, FS, mx, rfl, rfl, hd, hf⟩ := rx
    have eC : Cx = F0 := Value.ref.inj (Option.some.inj (mx.symm.trans F.at_))
    subst eC
    refine ⟨_, hx _ _ F, fun hy a hna => ?_, fun hn => ?_⟩
    · unfold asW at k1
      rw [if_pos hy] at k1
      refine ⟨x, Cx, ad, σ1, F, rfl, rfl, rfl, fun hlt => ⟨ds1.set i none, S1, _, rl1.hide i _, rs1, ⟨fun j hj => ?_, FS, hd, hf⟩, k1, fun ds2 S2 σ2 H2 k2 rl2 rs2 x2 _ => ?_, fun d S2 v H2 k2 rv rs2 x2 => kr.rt d S2 v H2 k2 rv rs2 (x1.trans x2)⟩⟩
      · cases hj
        exact List.getElem?_set_self hlt
      · exact kr.nx _ S2 _ H2 k2 (rl2.hide i none) rs2 (x1.trans x2)
    · unfold asW at k1
      rw [if_neg (by rw [hn]; exact Bool.false_ne_true)] at k1
      exact kr.ex x ds1 S1 _ _ σ1 H1 k1 rl1 rs1 x1 ⟨Cx, ad, FS, mx, rfl, rfl, hd, hf⟩
theorem hds_ok {cs : List Str} (ok : OkS p n X W) (hcs : cmeB p.x cs = true) : ∀ (hs : List (Str × Hss)) (hds : List ExceptHandler), mHds p.x X.N X.env.scope hs hds = true →
    ∃ L, HdsOk X hds L ∧ ∀ x ds S Cx ad FS σ H D E S0 H0, XcD X.K X.mg p.x x.cls Cx → RL X.K H ds σ → RepS X.K S H → Ext S0 H0 S H → X.mg x.cls = some (.ref Cx) → H ad = some (.xd FS) → (∀ f d, (f, d) ∈ x.fs → ∃ v, FS.lookup f = some v ∧ RV X.K H d v) →
      KsR X W D E S0 H0 → hdsW x ds S D hs → wMany X.K W E L (.ref Cx) (some ad) σ H
  | [], hds, h => by
    cases hds with
    | nil => exact ⟨[], .nil, fun x ds S Cx ad FS σ H D E S0 H0 F rl rs x1 mx hd hf kr k => kr.ex x ds S _ _ σ H k rl rs x1 ⟨Cx, ad, FS, mx, rfl, rfl, hd, hf⟩⟩
    | cons _ _ => simp [mHds] at h
  | (c, hh) :: r, hds, h => by
    rcases hds with _ | ⟨⟨ty, nm, bd, p3⟩, hds'⟩
    · simp [mHds] at h
    · rcases ty with _ | ty
      · simp [mHds] at h
      cases ty <;> first | (simp [mHds] at h; done) | skip
      rename_i x' q
      cases nm with
      | some _ => simp [mHds] at h
      | none =>
      rcases bd with _ | ⟨b, l⟩
      · simp [mHds] at h
      simp only [mHds, Bool.and_eq_true, decide_eq_true_eq] at h
      obtain ⟨rfl, h1, h2, h3⟩ := h
      obtain ⟨Dc, hD, hNm, hx⟩ := cls_at ok h1 hcs
      obtain ⟨L, o1, o2⟩ := hds_ok ok hcs r hds' h3
      refine ⟨(.ref Dc, tsO X p.x hh) :: L, .cons hNm (fun a oe cls d pn hz hf => ⟨fun pins s σ H E I ⟨x, Cx, ad, F, e1, e2, q⟩ => ?_⟩) o1, fun x ds S Cx ad FS σ H D E S0 H0 F rl rs x1 mx hd hf kr k => ?_⟩
      · subst e1 e2
        exact (hss_ok (X := X) ⟨F, ok.ok.bi, hz, hf, ok.ok.hu⟩ ok.ok.nd ok.lo hh _ h2).run pins s σ H E I q
      · refine ⟨_, hx _ _ F, fun hy a hna => ?_, fun hn => ?_⟩
        · have k : (if subC x.cls c = true then hssW x hh ds S D else hdsW x ds S D r) := k
          rw [if_pos hy] at k
          exact ⟨x, Cx, ad, F, rfl, rfl, ds, S, D, rl, rs, ⟨fun j hj => (nomatch hj), FS, hd, hf⟩, k, fun ds2 S2 σ2 H2 k2 rl2 rs2 x2 _ => kr.nx _ S2 _ H2 k2 rl2 rs2 (x1.trans x2), fun d S2 v H2 k2 rv rs2 x2 => kr.rt d S2 v H2 k2 rv rs2 (x1.trans x2)⟩
        · have k : (if subC x.cls c = true then hssW x hh ds S D else hdsW x ds S D r) := k
          rw [if_neg (by rw [hn]; exact Bool.false_ne_true)] at k
          exact o2 x ds S Cx ad FS σ H D E S0 H0 F rl rs x1 mx hd hf kr k
theorem st_tryO {b : Sxs} {hs : List (Str × Hss)} {cs : List Str} {body : List Stmt} {h0 : ExceptHandler} {hds : List ExceptHandler} (ok : OkS p n X W) (hcs : cmeB p.x cs = true) (hh : mHds p.x X.N X.env.scope hs (h0 :: hds) = true)
    (hb : ∀ (W : WX) (pn : List (Addr × Obj)) (xe : Value → Shared → Prop), Takes (X.tr pn xe) W → PassesOwn (model X.prog X.w) X.A X.env xe → PSs (X.tr pn xe) body (lSs X C W b)) :
    PS X (.Try body (h0 :: hds) [] [] pos) (lS X C W (.tryO b hs cs)) := by
  obtain ⟨L, o1, o2⟩ := hds_ok ok hcs hs _ hh
  refine (ps_try_many (X := X) (tb := fun W' => lSs X C W' b) (Wout := W) ok.st ok.fr ok.tk hb o1).imp fun E σ H ⟨ds, S, D, rl, rs, k, kr⟩ => ?_
  refine ⟨ds, S, _, rl, rs, k, kr.nx, kr.rt, kr.bk, kr.ct, fun x ds1 S1 cls dd σ1 H1 ⟨hi, k1⟩ rl1 rs1 x1 rx => ?_⟩
  obtain ⟨F0, F⟩ := cls_in ok hcs hi
  obtain ⟨Cx, ad, FS, mx, rfl, rfl, hd, hf⟩ := rx
  have eC : Cx = F0 := Value.ref.inj (Option.some.inj (mx.symm.trans F.at_))
  subst eC
  exact o2 x ds1 S1 Cx ad FS σ1 H1 D E S H F rl1 rs1 x1 mx hd hf kr k1
end
end Ev
set_option Elab.async false
set_option linter.all false
set_option maxRecDepth 100000
set_option maxHeartbeats 1000000
/-! EvC7: statements together. -/
namespace Ev
open PySem PySem.Spec PyProof.Rows L2
theorem OkS.tr {p : Prog} {n : Nat} {X : Cx} {W W' : WX} {pn : List (Addr × Obj)} {xe : Value → Shared → Prop} (ok : OkS p n X W) (tk : Takes (X.tr pn xe) W') (po : PassesOwn (model X.prog X.w) X.A X.env xe) : OkS p n (X.tr pn xe) W' :=
  ⟨⟨ok.ok.calm, ok.ok.nd, ok.ok.hu, ok.ok.room, ok.ok.bi, ok.ok.fn, ok.ok.fnk, ok.ok.cs, ok.ok.ts⟩, tk, ok.lo, po, ok.st, ok.fr, ok.xc⟩

theorem mEs_hd {G : Gt} {N : List Str} {sc : Scope} {es : Exs} {x : Expr} {l : List Expr} (h : mEs G N sc es (x :: l) = true) : isStar x = false := by
  cases es with
  | nil => simp [mEs] at h
  | cons e es =>
    simp only [mEs, Bool.and_eq_true] at h
    exact (mE_pl h.1).1
theorem mEs_tl {X : Cx} {G : Gt} {N : List Str} {sc : Scope} {es : Exs} {x : Expr} {l : List Expr} (h : mEs G N sc es (x :: l) = true) : Pl X l := by
  cases es with
  | nil => simp [mEs] at h
  | cons e es =>
    simp only [mEs, Bool.and_eq_true] at h
    exact mEs_pl h.2
section
variable {p : Prog} {n : Nat} {G : Gt} (hG : GOk G p)
include hG
theorem mA_ok {X : Cx} {W : WX} {ts : Tgs} {l : List Expr} {e : Ex} {v : Expr} {kt : Nat} {pt pos : Pos} (ok : OkS p n X W) (ht : mTs X.N X.env.scope ts l = true) (h : mA G X.N X.env.scope ts l e v = true) : PS X (.Assign [.Tuple l kt pt] v pos) (lS X (callC p n) W (.asg (.tg (.tp ts)) e)) := by
  have hg1 : PG X (.Tuple l kt pt) (lG X.K (.tp ts)) := g_ok ok.ok ok.lo (.tp ts) _ (by simpa [mT] using ht)
  have hg2 : PG X (.Tuple l kt pt) (gLst X.K l.length (lGs X.K ts)) := pg_lst ok.ok.calm (gs_ok ok.ok ok.lo ts l ht) (by rw [mTs_as ht, List.length_map]) (by rw [mTs_as ht]; simp [List.findIdx?_eq_none_iff])
  have hg : PG X (.Tuple l kt pt) (lGL X.K (.tp ts)) := (pg_or hg1 hg2).imp fun v σ H Q w => w.imp id fun ⟨ds, d, S, Kk, ts', l', rl, rs, rv, et, el, k, go⟩ => by
    cases et
    obtain ⟨a, vs, ev, hq, rvs⟩ := lst_src rs rv el
    refine ⟨a, vs, ev, hq, ?_, ds, l', Kk, rl, rvs, k, fun ds' σ' h1 h2 h3 => go ds' σ' h1 h2 h3⟩
    rw [← rvs.len, mTs_len ht]
    exact tgsW_len tgW_ex k
  have old : isTupE v = false → isLc v = false → mE G X.N X.env.scope e v = true → PS X (.Assign [.Tuple l kt pt] v pos) (lS X (callC p n) W (.asg (.tg (.tp ts)) e)) := fun h1 h2 h3 =>
    st_asg (e_ok hG e X W v ok.ok ok.tk h3) hg (show swapsWith v (some (.Tuple l kt pt)) pos.line X.env = pure false from sw_no h2 _ _ _) (ss_no h1 _ _) rfl
  have gen : ((!isTupE v) && ((!isLc v) && mE G X.N X.env.scope e v)) = true → PS X (.Assign [.Tuple l kt pt] v pos) (lS X (callC p n) W (.asg (.tg (.tp ts)) e)) := fun h => by
    simp only [Bool.and_eq_true, Bool.not_eq_true'] at h
    exact old h.1 h.2.1 h.2.2
  cases v with
  | Tuple vs k2 p2 =>
    cases e with
    | tup es =>
      simp only [mA, Bool.and_eq_true, Bool.or_eq_true] at h
      obtain ⟨h1, h2⟩ := h
      have he : PE X (.Tuple vs k2 p2) (lE X (callC p n) W (.tup es)) := s_tup (es_ok hG es X W vs ok.ok ok.tk h1)
      rcases h2 with h2 | h2
      · exact st_asg he hg rfl (ss_none h2) rfl
      · have ha := es_ok hG es X W vs ok.ok ok.tk h1
        unfold par2 at h2
        split at h2
        · rename_i i j x px y py vs'
          have hl := h2
          simp only [Bool.and_eq_true, decide_eq_true_eq] at h2
          obtain ⟨_, _, _, h3⟩ := h2
          unfold swS at h3
          simp only [Bool.and_eq_true, decide_eq_true_eq] at h3
          have len := eq_of_beq h3.2.2.1
          simp only [mTs, mT, Bool.and_eq_true, decide_eq_true_eq] at ht
          rcases vs with _ | ⟨a, _ | ⟨b, _ | ⟨c, vs⟩⟩⟩ <;> first | (simp at len; done) | skip
          exact st_par2 ok ha ht.1.1 ht.2.1.1 (by simpa only [par2] using hl)
        · rename_i i j l x px y py z pz vs'
          have hl := h2
          simp only [Bool.and_eq_true, decide_eq_true_eq] at h2
          obtain ⟨_, _, _, _, h3⟩ := h2
          unfold swS at h3
          simp only [Bool.and_eq_true, decide_eq_true_eq] at h3
          have len := eq_of_beq h3.2.2.1
          simp only [mTs, mT, Bool.and_eq_true, decide_eq_true_eq] at ht
          rcases vs with _ | ⟨a, _ | ⟨b, _ | ⟨c, _ | ⟨d, vs⟩⟩⟩⟩ <;> first | (simp at len; done) | skip
          exact st_par3 ok ha ht.1.1 ht.2.1.1 ht.2.2.1.1 (by simpa only [par2] using hl)
        · cases h2
    | _ => exact gen (by simpa only [mA] using h)
  | _ => cases e <;> exact gen (by simpa only [mA] using h)
mutual
theorem st_ok : ∀ (s : Sx) (X : Cx) (W : WX) (a : Stmt), OkS p n X W → mS G X.N X.env.scope s a = true → PS X a (lS X (callC p n) W s)
  | .asg (.tg (.nm i)) e, X, W, a, ok, h => by
    cases a with
    | Assign ts v pos =>
      rcases ts with _ | ⟨t, _ | ⟨t2, ts⟩⟩
      · simp [mS] at h
      · cases t with
        | Name x px =>
          simp only [mS, Bool.and_eq_true, Bool.or_eq_true, decide_eq_true_eq] at h
          obtain ⟨h1, h2, h3, h4⟩ := h
          rcases h4 with h4 | h4
          · exact st_set ok (e_ok hG e X W v ok.ok ok.tk h1) h2 h3 h4
          · cases v with
            | ListComp el gs s q =>
              cases e with
              | lc elt tg it c vs => exact st_setL hG ok h1 h2 h4
              | mth m o es => cases m <;> cases es <;> simp [mE] at h1
              | _ => simp [mE] at h1
            | _ => simp [lcYes] at h4
        | _ => simp [mS] at h
      · cases t <;> simp [mS] at h
    | _ => simp [mS] at h
  | .asg (.tg (.tp ts)) e, X, W, a, ok, h => by
    cases a with
    | Assign l v pos =>
      rcases l with _ | ⟨t, _ | ⟨t2, l⟩⟩
      · simp [mS] at h
      · cases t with
        | Tuple l k p =>
          simp only [mS, Bool.and_eq_true] at h
          exact mA_ok hG ok h.1 h.2
        | _ => simp [mS] at h
      · cases t <;> simp [mS] at h
    | _ => simp [mS] at h
  | .asg (.sub a i) e, X, W, st, ok, h => by
    cases st with
    | Assign l v pos =>
      rcases l with _ | ⟨t, _ | ⟨t2, l⟩⟩
      · simp [mS] at h
      · cases t with
        | Subscript x y q =>
          simp only [mS, Bool.and_eq_true] at h
          exact st_sub ok (e_ok hG a X W x ok.ok ok.tk h.1) (e_ok hG i X W y ok.ok ok.tk h.2.1) (e_ok hG e X W v ok.ok ok.tk h.2.2) (mE_pl h.2.1).2.1
        | _ => simp [mS] at h
      · cases t <;> simp [mS] at h
    | _ => simp [mS] at h
  | .aug i op e, X, W, st, ok, h => by
    cases st with
    | AugAssign t o v pos =>
      cases t with
      | Name x q =>
        simp only [mS, Bool.and_eq_true, decide_eq_true_eq] at h
        obtain ⟨rfl, h1, h2, h3⟩ := h
        exact st_aug ok (e_ok hG e X W v ok.ok ok.tk h3) h1 h2
      | _ => simp [mS] at h
    | _ => simp [mS] at h
  | .augs a i op e, X, W, st, ok, h => by
    cases st with
    | AugAssign t o v pos =>
      cases t with
      | Subscript x y q =>
        simp only [mS, Bool.and_eq_true, decide_eq_true_eq] at h
        obtain ⟨rfl, h1, h2, h3⟩ := h
        exact st_augs ok (e_ok hG a X W x ok.ok ok.tk h1) (e_ok hG i X W y ok.ok ok.tk h2) (e_ok hG e X W v ok.ok ok.tk h3) (mE_pl h2).2.1
      | _ => simp [mS] at h
    | _ => simp [mS] at h
  | .exp e, X, W, st, ok, h => by
    cases st with
    | Expr v pos =>
      simp only [mS, Bool.and_eq_true, Bool.not_eq_true'] at h
      exact st_exp (e_ok hG e X W v ok.ok ok.tk h.2) h.1
    | _ => simp [mS] at h
  | .ret e, X, W, st, ok, h => by
    cases st with
    | Return v pos =>
      cases v with
      | none => simp [mS] at h
      | some v =>
        simp only [mS] at h
        exact st_ret (e_ok hG e X W v ok.ok ok.tk h)
    | _ => simp [mS] at h
  | .retn, X, W, st, ok, h => by
    cases st with
    | Return v pos =>
      cases v with
      | none => exact st_retn
      | some v => simp [mS] at h
    | _ => simp [mS] at h
  | .iff c a b, X, W, st, ok, h => by
    cases st with
    | If x l r pos =>
      simp only [mS, Bool.and_eq_true] at h
      exact st_iff (t_ok hG c X W x ok.ok ok.tk h.1 h.2.1) (sts_ok a X W l ok h.2.2.1) (sts_ok b X W r ok h.2.2.2)
    | _ => simp [mS] at h
  | .whl c b, X, W, st, ok, h => by
    cases st with
    | While x l r pos =>
      cases r with
      | nil =>
        simp only [mS, Bool.and_eq_true] at h
        exact st_whl ok (t_ok hG c X W x ok.ok ok.tk h.1 h.2.1) (sts_ok b X W l ok h.2.2)
      | cons _ _ => simp [mS] at h
    | _ => simp [mS] at h
  | .for tg it b, X, W, st, ok, h => by
    cases st with
    | For t x l r pos =>
      cases r with
      | nil =>
        simp only [mS, Bool.and_eq_true] at h
        exact st_for ok (i_ok hG it X W t x ok.ok ok.tk h.1) (g_ok ok.ok ok.lo tg t h.2.1) (sts_ok b X W l ok h.2.2) (mI_fold h.1 X.env)
      | cons _ _ => simp [mS] at h
    | _ => simp [mS] at h
  | .brk, X, W, st, ok, h => by
    cases st with
    | Break pos => exact st_brk
    | _ => simp [mS] at h
  | .cnt, X, W, st, ok, h => by
    cases st with
    | Continue pos => exact st_cnt
    | _ => simp [mS] at h
  | .pss, X, W, st, ok, h => by
    cases st with
    | Pass pos => exact st_pss
    | _ => simp [mS] at h
  | .rse c fs fm es, X, W, st, ok, h => by
    unfold mS at h
    split at h <;> first | (cases h; done) | skip
    all_goals first
      | (rename_i hq; cases hq; done)
      | skip
    rename_i e1 e2 c' fs' fm' es' g p1 x l p2 pos heq
    cases heq
    simp only [Bool.and_eq_true, decide_eq_true_eq] at h
    obtain ⟨rfl, h1, h2, h3, h4⟩ := h
    exact st_rse ok (by rw [hG.xs]; exact h1) h2 h3 (es_ok hG es X W (x :: l) ok.ok ok.tk h4) (mEs_hd h4) (mEs_tl h4)
  | .tryA b c i hh cs, X, W, st, ok, h => by
    unfold mS at h
    split at h <;> first | (cases h; done) | skip
    all_goals first
      | (rename_i hq; cases hq; done)
      | skip
    rename_i e1 e2 b' c' i' hh' cs' body x p1 n' b0 l p2 pos heq
    cases heq
    simp only [Bool.and_eq_true, decide_eq_true_eq] at h
    obtain ⟨rfl, h1, h2, h3, h4, h5, h6⟩ := h
    rw [← hG.xs] at h1 h4 h5
    exact st_tryA ok h1 h4 h2 h3 h5 fun W' pn xe tk po => (sts_ok b (X.tr pn xe) W' body (ok.tr tk po) h6).imp fun E σ H ⟨ds, S, D, rl, rs, k, kr⟩ => ⟨ds, S, D, rl, rs, k, ⟨kr.nx, kr.rt, kr.bk, kr.ct, kr.ex⟩⟩
  | .tryO b hs cs, X, W, st, ok, h => by
    unfold mS at h
    split at h <;> first | (cases h; done) | skip
    all_goals first
      | (rename_i hq; cases hq; done)
      | skip
    rename_i e1 e2 b' hs' cs' body h0 hds pos heq
    cases heq
    simp only [Bool.and_eq_true, decide_eq_true_eq] at h
    obtain ⟨h1, h2, h3⟩ := h
    rw [← hG.xs] at h1 h2
    exact st_tryO ok h1 h2 fun W' pn xe tk po => (sts_ok b (X.tr pn xe) W' body (ok.tr tk po) h3).imp fun E σ H ⟨ds, S, D, rl, rs, k, kr⟩ => ⟨ds, S, D, rl, rs, k, ⟨kr.nx, kr.rt, kr.bk, kr.ct, kr.ex⟩⟩
theorem sts_ok : ∀ (s : Sxs) (X : Cx) (W : WX) (a : List Stmt), OkS p n X W → mSs G X.N X.env.scope s a = true → PSs X a (lSs X (callC p n) W s)
  | .nil, X, W, a, ok, h => by
    cases a with
    | nil => exact st_nil
    | cons _ _ => simp [mSs] at h
  | .cons s ss, X, W, a, ok, h => by
    cases a with
    | nil => simp [mSs] at h
    | cons a r =>
      simp only [mSs, Bool.and_eq_true] at h
      exact st_cons (st_ok s X W a ok h.1) (sts_ok ss X W r ok h.2)
end
end
end Ev
set_option Elab.async false
set_option linter.all false
set_option maxRecDepth 100000
set_option maxHeartbeats 1000000
/-! EvD1: the defs of a text; its law. -/
namespace Ev
open PySem PySem.Spec PyProof.Rows L2

theorem zip_lookup : ∀ {ps : List Str} {us : List Value}, ps.Nodup → us.length = ps.length → (ps.filterMap fun n => ((ps.zip us).lookup n).map fun v => (n, v)) = ps.zip us ∧ (ps.filter fun n => ((ps.zip us).lookup n).isNone) = []
  | [], us, _, h => by simp
  | p :: ps, [], _, h => by simp at h
  | p :: ps, u :: us, nd, h => by
    rw [List.nodup_cons] at nd
    obtain ⟨i1, i2⟩ := zip_lookup (ps := ps) (us := us) nd.2 (by simpa using h)
    have ne : ∀ n ∈ ps, ((p :: ps).zip (u :: us)).lookup n = (ps.zip us).lookup n := fun n hn => by
      have : (n == p) = false := by
        rw [beq_eq_false_iff_ne]
        rintro rfl
        exact nd.1 hn
      simp [List.zip_cons_cons, List.lookup, this]
    have e0 : ((p :: ps).zip (u :: us)).lookup p = some u := by simp [List.zip_cons_cons, List.lookup]
    constructor
    · rw [List.filterMap_cons, e0]
      simp only [Option.map_some, List.zip_cons_cons, List.cons.injEq, true_and]
      refine Eq.trans ?_ i1
      have aux : ∀ (f g : Str → Option (Str × Value)) (l : List Str), (∀ n ∈ l, f n = g n) → l.filterMap f = l.filterMap g := fun f g l => by
        induction l with
        | nil => intros; rfl
        | cons a l ih =>
          intro h
          rw [List.filterMap_cons, List.filterMap_cons, h a List.mem_cons_self, ih fun n hn => h n (List.mem_cons_of_mem _ hn)]
      refine aux _ _ ps fun n hn => ?_
      have := ne n hn
      rw [List.zip_cons_cons] at this
      rw [this]
    · rw [List.filter_cons, e0]
      simp only [Option.isNone_some, Bool.false_eq_true, if_false]
      refine Eq.trans ?_ i2
      exact List.filter_congr fun n hn => by rw [ne n hn]
theorem bind_plain {x qual : Str} {body : List Stmt} {scope : Scope} {kV doc pm cdv ct : Value} {an : Option Addr} {params : Arguments} {ps : List Str} {us : List Value} (h1 : params.posonlyargs = []) (h2 : params.args.map (·.arg) = ps) (h3 : params.kwonlyargs = []) (h4 : params.vararg = none) (h5 : params.kwarg = none) (nd : ps.Nodup) (hl : us.length = ps.length) :
    bindArgs (PySem.W.fnOf x qual params body scope .none kV doc pm an cdv ct) ⟨us, []⟩ = pure (ps.zip us) := by
  have q := zip_lookup nd hl
  unfold bindArgs
  have e : (PySem.W.fnOf x qual params body scope .none kV doc pm an cdv ct).params = params := rfl
  have e2 : (PySem.W.fnOf x qual params body scope .none kV doc pm an cdv ct).defaults = .none := rfl
  rw [e, e2]
  simp only [h1, h2, h3, h4, h5, List.map_nil, List.nil_append, List.append_nil]
  have e3 : seqItems? Value.none = pure none := rfl
  rw [e3]
  simp [hl, q.2]
  exact congrArg pure q.1

/-- a def of the text beside its reading -/
structure Ent where
  nm : Str
  N : List Str
  df : Df
  params : Arguments
  body : List Stmt
  scope : Scope
def Ent.ps (e : Ent) : List Str := e.params.args.map (·.arg)
def plainA (a : Arguments) : Bool := a.posonlyargs.isEmpty && (a.kwonlyargs.isEmpty && (a.vararg.isNone && (a.kwarg.isNone && decide (a.args.map (·.arg)).Nodup)))
def entOk (G : Gt) (e : Ent) : Bool :=
  C8.scC e.N e.ps e.scope && (plainA e.params && (decide (e.ps.length = e.df.np) && (decide (e.N.length = e.df.nn) && mSs G e.N e.scope e.df.body e.body)))
/-- an exception class of the text: its name, its __init__ -/
structure XEnt where
  nm : Str
  self : Str
  fs : List Str
  fm : Bool
  qual : Str
  params : Arguments
  body : List Stmt
  scope : Scope
/-- a text: its defs, its constants, its dicts, its exceptions, the classes that are asked for, its file -/
structure Txt where
  T : List Ent
  cs : List (Str × D)
  ts : List (Str × List (Str × D))
  xs : List XEnt := []
  xn : List Str := []
  file : Str := Str.empty
def Txt.xt (T : Txt) : Xt := ⟨T.xs.map fun e => (e.nm, e.fs, e.fm), T.xn⟩
def Txt.G (T : Txt) : Gt := ⟨T.T.map (·.nm), T.cs, T.ts, T.xt⟩
def progOf (T : Txt) : Prog := ⟨fun f => (T.T.find? fun e => decide (e.nm = f)).map (·.df), fun x d => (x, d) ∈ T.cs, fun x kv => (x, kv) ∈ T.ts, T.xt⟩
theorem progOf_of {T : Txt} {f : Str} {d : Df} (h : progOf T f = some d) : ∃ e ∈ T.T, e.nm = f ∧ e.df = d := by
  have h : (T.T.find? fun e => decide (e.nm = f)).map (·.df) = some d := h
  cases q : T.T.find? fun e => decide (e.nm = f) with
  | none => rw [q] at h; cases h
  | some e =>
    rw [q] at h
    cases h
    exact ⟨e, List.mem_of_find?_eq_some q, by simpa using List.find?_some q, rfl⟩
theorem progOf_mem {T : Txt} {f : Str} (h : f ∈ T.T.map (·.nm)) : ∃ d, progOf T f = some d := by
  show ∃ d, (T.T.find? fun e => decide (e.nm = f)).map (·.df) = some d
  cases q : T.T.find? fun e => decide (e.nm = f) with
  | none =>
    rw [List.find?_eq_none] at q
    obtain ⟨e, he, rfl⟩ := List.mem_map.1 h
    exact absurd (by simp) (q e he)
  | some e => exact ⟨_, rfl⟩
theorem fn_lo {CX : CXT} {P : Program} {w : World} {K : PySem.W.Frag} {mg : Str → Option Value} {base : Heap} {N : List Str} {qual : Str} {scope : Scope} {f : Addr} {cd : Value} {A : Around} {outer : List Env} {s : Shared} {H : Hp} {E : L2.XK} : LocOk (cxOf CX P w K mg base N qual scope f cd A outer s H E) scope := fun x h => by
  unfold locB at h
  split at h
  · exact ⟨.inl (by assumption), .inl rfl⟩
  · exact ⟨.inr (by assumption), .inl rfl⟩
  · cases h
theorem rl_start {K : PySem.W.Frag} {H : Hp} {ds : List D} {vs : List V} {N : List Str} {np nn : Nat} (rv : RVs K H ds vs) (h1 : vs.length = np) (h2 : N.length = nn) : RL K H (ds.map some ++ List.replicate (nn - np) none) (L2.start N vs) := by
  unfold L2.start
  have hl := rv.len
  refine ⟨by simp; omega, fun i d e => ?_⟩
  by_cases h : i < ds.length
  · rw [List.getElem?_append_left (by simpa using h), List.getElem?_map] at e
    cases q : ds[i]? with
    | none => rw [q] at e; cases e
    | some x =>
      rw [q] at e
      cases e
      obtain ⟨y, h3, h4⟩ := rv.get q
      exact ⟨y, by rw [List.getElem?_append_left (by simp; omega), List.getElem?_map, h3]; rfl, h4⟩
  · rw [List.getElem?_append_right (by simp; omega), List.getElem?_replicate] at e
    split at e <;> cases e
/-! ### a part of the store hidden -/
theorem mrg_ext {S S0 S' : Sto} {H H' : Hp} (sb : Sub S0 S) (e : Ext S0 H S' H') : Ext S H (mrg S S0 S') H' := by
  have non : ∀ a, S a = none → S0 a = none := fun a n => by
    cases q : S0 a with
    | none => rfl
    | some o => rw [sb a o q] at n; cases n
  refine ⟨fun a o n h => e.keep a o (non a n) h, fun a n h => ?_⟩
  unfold mrg
  rw [n, non a n]
  exact e.away a (non a n) h
theorem mrg_rep {K : PySem.W.Frag} {S S0 S' : Sto} {H H' : Hp} (rs : RepS K S H) (rs0 : RepS K S0 H) (rs' : RepS K S' H') (e : Ext S0 H S' H') : RepS K (mrg S S0 S') H' := fun a o h => by
  unfold mrg at h
  cases q0 : S0 a with
  | some u => rw [q0] at h; exact rs' a o h
  | none =>
    cases q : S a with
    | none => rw [q0, q] at h; exact rs' a o h
    | some u =>
      rw [q0, q] at h
      cases h
      exact (rs a _ q).mono (e.stay rs0) fun w hw => e.keep a w q0 hw
section
variable {P : Program} {w : World} {K : PySem.W.Frag} {mg : Str → Option Value} {base : Heap} {T : Txt}
theorem bind_of {e : Ent} {a : Addr} {fd : FuncData} (F : FunD K e.nm e.nm e.params e.body e.scope [] [] a fd) (h : plainA e.params = true) : Binds K fd e.ps [] := by
  unfold plainA at h
  simp only [Bool.and_eq_true, decide_eq_true_eq, List.isEmpty_iff, Option.isNone_iff_eq_none] at h
  obtain ⟨h1, h2, h3, h4, h5⟩ := h
  exact F.bindsN fun kV doc pm an cdv ct us hl => bind_plain h1 rfl h2 h3 h4 h5 hl
theorem fn_ok (hT : ∀ e ∈ T.T, entOk T.G e = true) (bi : ∀ x ∈ bNames, mg x = none) (hc : ∀ x d, (x, d) ∈ T.cs → CstOk K mg x d) (ht : ∀ x kv, (x, kv) ∈ T.ts → DctOk K w mg x kv) (hx : XcAll P w K mg base T.xt)
    (fx : ∀ e ∈ T.T, ∃ a fd, mg e.nm = some (.ref a) ∧ FunD K e.nm e.nm e.params e.body e.scope [] [] a fd) : ∀ n, ∀ e ∈ T.T, progOf T e.nm = some e.df → ∀ a fd, FunD K e.nm e.nm e.params e.body e.scope [] [] a fd →
      FnOk P w K mg base (L2.CX P w) (n + 2) a fd e.ps (spOf K mg (progOf T) n e.nm e.df.np)
  | 0, e, he, hp, a, fd, F => ⟨fun _ _ _ _ ⟨_, _, _, _, _, _, _, h, _⟩ => h.elim, fun _ _ _ _ _ _ _ _ _ _ _ _ _ ⟨_, _, _, _, _, _, _, h, _⟩ => h.elim⟩
  | n + 1, e, he, hp, a, fd, F => by
    have h := hT e he
    unfold entOk at h
    simp only [Bool.and_eq_true, decide_eq_true_eq] at h
    obtain ⟨h1, h2, h3, h4, h5⟩ := h
    have G : GOk T.G (progOf T) := ⟨fun f hf => progOf_mem hf, fun x d m => m, fun x kv m => m, rfl⟩
    refine F.ok (C8.fnScope_by h1) (fun vs H Q E ⟨hl, _⟩ => by rw [hl, h3]) fun cdv A outer s H vs Q E hr ⟨hl, ds, S, Kk, Ek, rvs, rs, k, aft, xk⟩ => ?_
    let X := cxOf (L2.CX P w) P w K mg base e.N e.nm e.scope a cdv A outer s H E
    have nd : e.N.Nodup := (C8.fnScope_by h1).nd
    have un := hr.un
    have ok : Ok (progOf T) n X := ⟨rfl, nd, (by show X.A.units + 66 < cLine; exact Nat.lt_of_le_of_lt (by show _ ≤ X.A.units + 16 * (n + 1 + 1) + 200; omega) un), hr, bi, fun f d hf => by
      obtain ⟨e', he', rfl, rfl⟩ := progOf_of hf
      obtain ⟨a', fd', hm, F'⟩ := fx e' he'
      have h' := hT e' he'
      unfold entOk at h'
      simp only [Bool.and_eq_true, decide_eq_true_eq] at h'
      exact ⟨a', fd', e'.ps, hm, F'.kp, bind_of F' h'.2.1, h'.2.2.1, fn_ok hT bi hc ht hx fx n e' he' hf a' fd' F'⟩, fun m hm' f d hf => by
      obtain ⟨e', he', rfl, rfl⟩ := progOf_of hf
      obtain ⟨a', fd', hm, F'⟩ := fx e' he'
      have h' := hT e' he'
      unfold entOk at h'
      simp only [Bool.and_eq_true, decide_eq_true_eq] at h'
      exact ⟨a', fd', e'.ps, hm, F'.kp, bind_of F' h'.2.1, h'.2.2.1, fn_ok hT bi hc ht hx fx m e' he' hf a' fd' F'⟩, hc, ht⟩
    have oks : OkS (progOf T) n X (fun cls d _ H => E cls d H) := ⟨ok, takes_of rfl rfl rfl rfl, fn_lo, passes_of rfl, rfl, rfl, hx⟩
    refine ⟨_, sts_ok G e.df.body X _ e.body oks h5, ?_⟩
    have k : (match progOf T e.nm with | some d => bodyW (callC (progOf T) n) d ds S Kk Ek | none => False) := k
    rw [hp] at k
    obtain ⟨_, S0, sb0, k⟩ := k
    have rs0 : RepS K S0 H := rs.sub sb0
    refine ⟨_, S0, _, rl_start rvs hl h4, rs0, k, fun ds' S' σ' H' ⟨S2, sb, kk⟩ rl' rs' e' => ?_, fun d S' v H' ⟨S2, sb, kk⟩ rv rs' e' => ?_, fun _ _ _ _ z => z.elim, fun _ _ _ _ z => z.elim, fun x ds' S' cls dd σ' H' ⟨S2, sb, kk⟩ rl' rs' e' rx => ?_⟩
    · exact aft .non _ .non H' kk (mrg_ext sb0 (e'.sub sb)) (mrg_rep rs rs0 (rs'.sub sb) (e'.sub sb)) .non
    · exact aft d _ v H' kk (mrg_ext sb0 (e'.sub sb)) (mrg_rep rs rs0 (rs'.sub sb) (e'.sub sb)) rv
    · exact xk x _ cls dd H' kk (mrg_ext sb0 (e'.sub sb)) (mrg_rep rs rs0 (rs'.sub sb) (e'.sub sb)) rx
termination_by n => n
decreasing_by all_goals omega
end
end Ev
set_option Elab.async false
set_option linter.all false
set_option maxRecDepth 100000
set_option maxHeartbeats 1000000
/-! EvHx: the head's look at the exceptions. -/
namespace Ev
open PySem PySem.Spec PyProof.Rows L2 NdefX

def xentOk (e : XEnt) : Bool := mInit e.self e.fs e.fm e.body && (nscB ((e.self :: e.fs) ++ [clsN]) (e.self :: e.fs) [clsN] e.scope && (plainA e.params && (decide (e.params.args.map (·.arg) = e.self :: e.fs) && (plainN e.self && (decide (e.scope.names.lookup ("super" : Str) = some .globalImplicit) && (!e.fs.isEmpty && decide (e.fs.length ≤ 900)))))))
abbrev XW : Type := Option (Str × Str × Arguments × FuncBody × Scope × Addr × Addr)
def xFn (K : PySem.W.Frag) (e : XEnt) : Addr := He.ma K (He.ga K e.nm) "__init__"
def xW (K : PySem.W.Frag) (e : XEnt) : XW := match K.lookup (xFn K e) with
  | some ⟨_, _, .func fd, _⟩ => some (fd.name, fd.qualname, fd.params, fd.body, fd.scope, fd.globals, fd.builtins)
  | _ => none
def XEnt.val (e : XEnt) : XW := some ("__init__", e.qual, e.params, .stmts e.body, e.scope, mainGlobals, builtinsNs)
def oexB (K : PySem.W.Frag) (C : Addr) : Bool := match K.lookup C with
  | some ⟨.type "type", _, .cls cd, sl⟩ => (match cd.mro, sl.toList with
    | .ref C' :: bm, [_, _, _, _, some (.builtin n), _] => C' == C && (n == "ValueError.__new__" && (!cd.hasDel && (cd.hasDict && PySem.HandSPX.refsVE bm)))
    | _, _ => false)
  | _ => false
theorem oexB_ok {K : PySem.W.Frag} {C : Addr} (q : oexB K C = true) : ∃ nm q N bs bm sn sub ab col dd k0 k1 k2 k3 k5, K.lookup C = some (excClassObj nm q C N bs bm true sn sub ab col dd k0 k1 k2 k3 k5 "ValueError.__new__") ∧ PySem.HandSPX.refsVE bm = true := by
  unfold oexB at q
  split at q
  · rename_i dd cd sl ho
    split at q
    · rename_i C' bm k0 k1 k2 k3 n k5 hm hs
      simp only [Bool.and_eq_true, beq_iff_eq, Bool.not_eq_true'] at q
      obtain ⟨rfl, rfl, h1, h2, h3⟩ := q
      obtain ⟨nm, bs, mro, ns, qn, hd, sn, sub, ab, col, del⟩ := cd
      dsimp only at hm h1 h2
      subst hm h1 h2
      obtain ⟨l⟩ := sl
      simp only at hs
      subst hs
      exact ⟨nm, qn, ns, bs, bm, sn, sub, ab, col, dd, k0, k1, k2, k3, k5, ho, h3⟩
    · cases q
  · cases q
def cellB (K : PySem.W.Frag) (cc C : Addr) : Bool := match K.lookup cc with
  | some ⟨_, _, .cell (some (.ref C')), _⟩ => decide (C' = C)
  | _ => false
def fileB (K : PySem.W.Frag) (cd : Addr) (file : Str) : Bool := match K.lookup cd with
  | some ⟨_, _, .fields vs, _⟩ => (match (vs[2]? : Option Value) with
    | some (Value.str f _) => file == f
    | _ => false)
  | _ => false
/-- the function of such an __init__ -/
def xfnB (K : PySem.W.Frag) (file : Str) (e : XEnt) (C : Addr) : Bool := match K.lookup (xFn K e) with
  | some ⟨_, _, .func fd, _⟩ => (match fd.closure, fd.code, fd.defaults, fd.kwdefaults, fd.annotations with
    | [(x, cc)], .ref cd, .none, .none, none => decide (x = clsN) && (cellB K cc C && (PySem.W.codeIn K (.ref cd) e.qual && fileB K cd file))
    | _, _, _, _, _ => false)
  | _ => false
def xclB (K : PySem.W.Frag) (C fI : Addr) : Bool :=
  oexB K C && (He.eqO (PySem.W.findIn K (.ref C) "__setattr__") (some (some (.builtin "object.__setattr__"))) && (decide (PySem.W.typeIn K (.ref C) = some (.type "type")) && (PySem.W.keepIn K (.ref C) &&
  (He.eqO (PySem.W.findIn K (.ref C) "__init__") (some (some (.ref fI))) && (decide (PySem.W.typeIn K (.ref fI) = some (.type "function")) && (decide (PySem.W.mroIn K C (.ref C) = some true) && (He.eqO (PySem.W.ks_superIn K C C "__init__") (some (some (.builtin "ValueError.__init__"))) &&
  (decide (PySem.W.subIn K (.ref C) (.type "ValueError") = some true) && (He.eqO (PySem.W.nsIn K cStatics "thirdparty.any") (some none) && (xfB K C && ((PySem.W.clsIn K C).isSome && (He.eqO (PySem.W.findIn K (.ref C) "__class__") (some (some (.builtin "object.__class__"))) &&
  (He.eqO (PySem.W.specialIn K (.builtin "object.__class__") "__get__") (some (some (.builtin "getset_descriptor.__get__"))) && (decide (PySem.W.takesIn K (.builtin "object.__class__") = some true) && (decide (PySem.W.mroIn K C (.type "object") = some true) && decide (PySem.W.kitOne K (.ref C) (.type "ValueError") = some true))))))))))))))))
def xprB (K : PySem.W.Frag) (xt : Xt) (c : Str) (C : Addr) : Bool :=
  (xt.m.all fun e => e.2.1.all fun f => He.eqO (PySem.W.findIn K (.ref C) f) (some none)) && xt.n.all fun d => He.eqO (PySem.W.nsIn K mainGlobals d) (some (some (.ref (He.ga K d)))) && (decide (PySem.W.exmOne K (.ref C) (.ref (He.ga K d)) = some (subC c d)) && decide (PySem.W.kitOne K (.ref C) (.ref (He.ga K d)) = some (subC c d)))
def xB (K : PySem.W.Frag) (T : Txt) (e : XEnt) : Bool := He.eqO (PySem.W.nsIn K mainGlobals e.nm) (some (some (.ref (He.ga K e.nm)))) && (xclB K (He.ga K e.nm) (xFn K e) && (xfnB K T.file e (He.ga K e.nm) && xprB K T.xt e.nm (He.ga K e.nm)))

theorem xfn_ok {K : PySem.W.Frag} {e : XEnt} {file : Str} {C : Addr} (h : xfnB K file e C = true) (hv : xW K e = e.val) : ∃ cd cc, (∃ oc od osl doc pm ctv, K.lookup (xFn K e) = some ⟨oc, od, .func (PySem.W.fnX "__init__" e.qual e.params e.body e.scope [("__class__", cc)] .none .none doc pm none (.ref cd) ctv), osl⟩) ∧
    PySem.W.codeIn K (.ref cd) e.qual = true ∧ (∃ ccl cdd ccs vs f tf, K.lookup cd = some ⟨ccl, cdd, .fields vs, ccs⟩ ∧ vs[2]? = some (.str f tf) ∧ (file == f) = true) ∧ ∃ cl cld csl, K.lookup cc = some ⟨cl, cld, .cell (some (.ref C)), csl⟩ := by
  unfold xfnB at h
  unfold xW at hv
  cases q : K.lookup (xFn K e) with
  | none => rw [q] at h; cases h
  | some o =>
    obtain ⟨oc, od, dt, osl⟩ := o
    rw [q] at h hv
    cases dt with
    | func fd =>
      obtain ⟨n1, n2, n3, n4, n5, n6, n7, n8, n9, n10, n11, n12, n13, n14, n15⟩ := fd
      have e2 : (some (n1, n2, n3, n4, n5, n6, n15) : XW) = some (Str.ofString "__init__", e.qual, e.params, .stmts e.body, e.scope, mainGlobals, builtinsNs) := hv
      simp only [Option.some.injEq, Prod.mk.injEq] at e2
      obtain ⟨h1, h2, h3, h4, h5, h6, h8⟩ := e2
      subst h1 h2 h3 h4 h5 h6 h8
      dsimp only at h
      split at h
      · rename_i x cc cd
        simp only [Bool.and_eq_true, decide_eq_true_eq] at h
        obtain ⟨rfl, k1, k2, k3⟩ := h
        refine ⟨cd, cc, ⟨oc, od, osl, _, _, _, rfl⟩, k2, ?_, ?_⟩
        · unfold fileB at k3
          split at k3
          · rename_i c1 c2 vs c3 q2
            split at k3
            · rename_i f t q3
              exact ⟨_, _, _, _, f, t, q2, q3, k3⟩
            · cases k3
          · cases k3
        · unfold cellB at k1
          split at k1
          · rename_i c1 c2 C' c3 q2
            have k1 := of_decide_eq_true k1
            subst k1
            exact ⟨_, _, _, q2⟩
          · cases k1
      · cases h
    | _ => cases h
theorem bind_closed {x qual : Str} {body : List Stmt} {scope : Scope} {cl : List (Str × Addr)} {kV doc pm cdv ct : Value} {an : Option Addr} {params : Arguments} {ps : List Str} {us : List Value} (h1 : params.posonlyargs = []) (h2 : params.args.map (·.arg) = ps) (h3 : params.kwonlyargs = []) (h4 : params.vararg = none) (h5 : params.kwarg = none) (nd : ps.Nodup) (hl : us.length = ps.length) :
    bindArgs (PySem.W.fnX x qual params body scope cl .none kV doc pm an cdv ct) ⟨us, []⟩ = pure (ps.zip us) := by
  have q := zip_lookup nd hl
  unfold bindArgs
  have e : (PySem.W.fnX x qual params body scope cl .none kV doc pm an cdv ct).params = params := rfl
  have e2 : (PySem.W.fnX x qual params body scope cl .none kV doc pm an cdv ct).defaults = .none := rfl
  rw [e, e2]
  simp only [h1, h2, h3, h4, h5, List.map_nil, List.nil_append, List.append_nil]
  have e3 : seqItems? Value.none = pure none := rfl
  rw [e3]
  simp [hl, q.2]
  exact congrArg pure q.1
theorem xcAll_ok {P : Program} {w : World} {K : PySem.W.Frag} {mg : Str → Option Value} {h : Heap} {T : Txt} (KX : K.In h) (G : h.Ns mainGlobals mg) (bi : ∀ x ∈ bNames, mg x = none) (hT : (T.xs.all xentOk) = true) (hB : (T.xs.all fun e => xB K T e) = true) (hV : ∀ e ∈ T.xs, xW K e = e.val)
    (hf : P.main.file = T.file) (ht : (P.main.scope.names.lookup ("super" : Str)).isSome = false) (base : Heap) : XcAll P w K mg base T.xt := by
  have go : ∀ e ∈ T.xs, XcD K mg T.xt e.nm (He.ga K e.nm) ∧ XcM P w K mg base e.nm e.fs e.fm := fun e he => by
    have b := List.all_eq_true.1 hB e he
    have x := List.all_eq_true.1 hT e he
    unfold xB at b
    rw [Bool.and_eq_true, Bool.and_eq_true, Bool.and_eq_true] at b
    obtain ⟨b1, b2, b3, b4⟩ := b
    have hm := PySem.W.mg_of KX G (He.eqO_ok b1)
    unfold xclB at b2
    simp only [Bool.and_eq_true, decide_eq_true_eq] at b2
    obtain ⟨c1, c2, c3, c4, c5, c6, c7, c8, c9, c10, c11, c12, c13, c14, c15, c16, c17⟩ := b2
    have XF := xfB_ok c11
    have T1 : OexC K (He.ga K e.nm) := ⟨oexB_ok c1, He.eqO_ok c2, XF.exC, c3, c4⟩
    unfold xprB at b4
    simp only [Bool.and_eq_true, decide_eq_true_eq, List.all_eq_true] at b4
    refine ⟨⟨hm, XF, ⟨c12, He.eqO_ok c13, He.eqO_ok c14, c15, c16⟩, fun q hq f hf => He.eqO_ok (b4.1 q hq f hf), fun d hd => ?_, c17⟩, ?_⟩
    · obtain ⟨d1, d2, d3⟩ := b4.2 d hd
      exact ⟨_, PySem.W.mg_of KX G (He.eqO_ok d1), d2, d3⟩
    · obtain ⟨cd, cc, lk, hcd, hcode, hcell⟩ := xfn_ok b3 (hV e he)
      unfold xentOk at x
      simp only [Bool.and_eq_true, decide_eq_true_eq, Bool.not_eq_true'] at x
      obtain ⟨x1, x2, x3, x4, x5, x6, x7, x8⟩ := x
      have S := nscope_by x2
      have F : XcF P K (He.ga K e.nm) (xFn K e) cd cc e.qual e.params e.body e.scope := ⟨T1, lk, hcd, by
        obtain ⟨q1, q2, q3, q4, f, tf, q5, q6, q7⟩ := hcode
        exact ⟨q1, q2, q3, q4, f, tf, q5, q6, by rw [hf]; exact q7⟩, hcell, c7, He.eqO_ok c8, c9, He.eqO_ok c10, ht, trivial⟩
      obtain ⟨oc, od, osl, doc, pm, ctv, lk⟩ := lk
      have pa := x3
      unfold plainA at pa
      simp only [Bool.and_eq_true, decide_eq_true_eq, List.isEmpty_iff, Option.isNone_iff_eq_none] at pa
      obtain ⟨p1, p2, p3, p4, p5⟩ := pa
      obtain ⟨ar, har, har2⟩ : ∃ ar, (e.params.posonlyargs ++ e.params.args).head? = some ar ∧ ar.arg = e.self := by
        rw [p1, List.nil_append]
        cases hh : e.params.args with
        | nil => rw [hh] at x4; cases x4
        | cons a r =>
          rw [hh] at x4
          exact ⟨a, rfl, (List.cons.inj x4).1⟩
      refine ⟨_, xFn K e, _, e.self :: e.fs, hm, T1, He.eqO_ok c5, c6, ?_, x8, fun k => xinit_fn (k := k) F x1 S har har2 x5 x6 (bi _ (by decide +kernel)) (fun z => by rw [z] at x7; cases x7) x8 (fun f hf => He.eqO_ok (b4.1 (e.nm, e.fs, e.fm) (List.mem_map.2 ⟨e, he, rfl⟩) f hf)) ⟨oc, od, osl, doc, pm, ctv, rfl, lk⟩⟩
      exact .all fun us hl => bind_closed p1 x4 p2 p3 p4 (by rw [← x4]; exact p5) hl
  refine ⟨fun c fs fm hm => ?_, fun c hc => ?_⟩
  · obtain ⟨e, he, q⟩ := List.mem_map.1 hm
    cases q
    exact (go e he).2
  · obtain ⟨q, hq, rfl⟩ := List.mem_map.1 hc
    obtain ⟨e, he, rfl⟩ := List.mem_map.1 hq
    exact ⟨_, (go e he).1⟩
end Ev
set_option Elab.async false
set_option linter.all false
set_option maxRecDepth 100000
set_option maxHeartbeats 1000000
/-! EvH: the head's look: the defs, the constants, the dicts. -/
namespace Ev
open PySem PySem.Spec PyProof.Rows L2
mutual
/-- a value that nobody changes, as K holds it -/
def valB (K : PySem.W.Frag) : D → Value → Bool
  | .non, .none => true
  | .bl b, .bool c => b == c
  | .int i, .int j _ => decide (i = j)
  | .str x, .str y _ => decide (x = y)
  | .tup l, .ref a => match K.lookup a with
    | some ⟨.type c, none, .seq its _, _⟩ => decide (c = "tuple") && (decide (its.size ≤ sizeLine) && valsB K l its.toList)
    | _ => false
  | _, _ => false
def valsB (K : PySem.W.Frag) : List D → List Value → Bool
  | [], [] => true
  | d :: l, u :: r => valB K d u && valsB K l r
  | _, _ => false
end
mutual
theorem valB_ok {K : PySem.W.Frag} : ∀ {d : D} {u : Value}, valB K d u = true → ∃ v, RelV v u ∧ ∀ H, RV K H d v
  | .non, u, h => by cases u <;> first | exact ⟨.non, rfl, fun H => .non⟩ | (simp [valB] at h)
  | .bl b, u, h => by
    cases u with
    | bool c => exact ⟨.bl b, by simp [valB] at h; rw [h]; rfl, fun H => .bl b⟩
    | _ => simp [valB] at h
  | .int i, u, h => by
    cases u with
    | int j t => exact ⟨.int i, ⟨t, by simp [valB] at h; rw [h]⟩, fun H => .int i⟩
    | _ => simp [valB] at h
  | .str i, u, h => by
    cases u with
    | str j t => exact ⟨.str i, ⟨t, by simp [valB] at h; rw [h]⟩, fun H => .str i⟩
    | _ => simp [valB] at h
  | .fz l, u, h => by cases u <;> simp [valB] at h
  | .ref a, u, h => by cases u <;> simp [valB] at h
  | .tup l, u, h => by
    cases u with
    | ref a =>
      simp only [valB] at h
      split at h
      · rename_i c its n sl q
        simp only [Bool.and_eq_true, decide_eq_true_eq] at h
        obtain ⟨h1, h2, h3⟩ := h
        obtain ⟨vs, r, rv⟩ := valsB_ok h3
        exact ⟨.ref a, rfl, fun H => .tup (xs := vs) (.inr ⟨_, its, n, q, congrArg Value.type h1, rfl, rfl, h2, r⟩) (rv H)⟩
      · cases h
    | _ => simp [valB] at h
theorem valsB_ok {K : PySem.W.Frag} : ∀ {l : List D} {r : List Value}, valsB K l r = true → ∃ vs, Vals vs r ∧ ∀ H, RVs K H l vs
  | [], [], _ => ⟨[], .nil, fun H => .nil⟩
  | d :: l, u :: r, h => by
    simp only [valsB, Bool.and_eq_true] at h
    obtain ⟨v, h1, h2⟩ := valB_ok h.1
    obtain ⟨vs, h3, h4⟩ := valsB_ok h.2
    exact ⟨v :: vs, .cons h1 h3, fun H => .cons (h2 H) (h4 H)⟩
  | [], _ :: _, h => by simp [valsB] at h
  | _ :: _, [], h => by simp [valsB] at h
end
def cstK (K : PySem.W.Frag) (q : Str × D) : Bool := match PySem.W.nsIn K mainGlobals q.1 with
  | some (some u) => valB K q.2 u
  | _ => false
def dctK (K : PySem.W.Frag) (q : Str × List (Str × D)) : Bool := He.eqO (PySem.W.nsIn K mainGlobals q.1) (some (some (.ref (He.ga K q.1)))) && q.2.all fun r => match PySem.W.nsIn K (He.ga K q.1) r.1 with
  | some (some u) => valB K r.2 u
  | _ => false
theorem cstK_ok {K : PySem.W.Frag} {h : Heap} {mg : Str → Option Value} (X : K.In h) (G : h.Ns mainGlobals mg) {x : Str} {d : D} (c : cstK K (x, d) = true) : CstOk K mg x d := by
  unfold cstK at c
  split at c
  · rename_i u e
    obtain ⟨v, h1, h2⟩ := valB_ok c
    exact ⟨u, v, PySem.W.mg_of X G e, h1, h2⟩
  · cases c
theorem lookup_memK {α : Type} {z : Str} {d : α} : ∀ {l : List (Str × α)}, l.lookup z = some d → (z, d) ∈ l
  | [], h => by cases h
  | (a, b) :: r, h => by
    rw [List.lookup_cons] at h
    cases q : z == a with
    | true =>
      rw [q] at h
      have e : z = a := by simpa using q
      cases h
      rw [e]
      exact List.mem_cons_self
    | false =>
      rw [q] at h
      exact List.mem_cons_of_mem _ (lookup_memK h)
theorem dctK_ok {K : PySem.W.Frag} {w : World} {h : Heap} {mg : Str → Option Value} (X : K.In h) (G : h.Ns mainGlobals mg) {x : Str} {kv : List (Str × D)} (c : dctK K (x, kv) = true) (t : ∃ es n, KDict K w (He.ga K x) es n) : DctOk K w mg x kv := by
  unfold dctK at c
  rw [Bool.and_eq_true] at c
  obtain ⟨c1, c2⟩ := c
  refine ⟨He.ga K x, PySem.W.mg_of X G (He.eqO_ok c1), fun z d hl => ?_⟩
  have c3 := List.all_eq_true.1 c2 (z, d) (lookup_memK hl)
  obtain ⟨es, n, t⟩ := t
  simp only at c3
  split at c3
  · rename_i u e
    obtain ⟨v, h1, h2⟩ := valB_ok c3
    exact ⟨v, ⟨es, n, u, t.at_, t.lit, e, h1⟩, h2⟩
  · cases c3
/-- what a value reaches in n steps -/
def asV (g : Addr → Option Obj) : Nat → List Addr → List Addr
  | 0, as => as
  | n + 1, as => asV g n (He.growG g as)
def asC (g : Addr → Option Obj) (n : Nat) (cs : List Str) : List Addr := He.asD g n ++ cs.flatMap fun x => match PySem.W.nsIn (He.frG g [mainGlobals]) mainGlobals x with
  | some (some (.ref a)) => asV g 3 [a]
  | _ => []
/-- what a raised exception's class reaches -/
def asVd (g : Addr → Option Obj) : Nat → List Addr → List Addr
  | 0, as => as
  | n + 1, as => asVd g n (He.growD g as)
def asX (g : Addr → Option Obj) (T : Txt) : List Addr := if T.xs.isEmpty then [] else cStatics :: ((T.xn.flatMap fun x => match PySem.W.nsIn (He.frG g [mainGlobals]) mainGlobals x with
  | some (some (.ref a)) => [a]
  | _ => []) ++ T.xs.flatMap fun e => match PySem.W.nsIn (He.frG g [mainGlobals]) mainGlobals e.nm with
  | some (some (.ref a)) => asVd g 3 [a]
  | _ => [])
def moreC (T : Txt) (K : PySem.W.Frag) : Bool := ((T.cs.all fun q => cstK K q) && T.ts.all fun q => dctK K q) && T.xs.all fun e => xB K T e
def tabsC (T : Txt) : List He.Tab := T.ts.map fun q => (fun K => He.ga K q.1, q.2.map (·.1))
def nmsC (T : Txt) : List Str := T.cs.map (·.1) ++ T.ts.map (·.1)
def Ent.d (e : Ent) : He.DefD := ⟨(e.nm, none), e.nm, e.nm, e.params, e.body, e.scope, [], []⟩
def ents (T : Txt) : List He.DefD := T.T.map Ent.d
def entFa (T : Txt) : List He.Fa := T.T.map (fun e => He.Fa.glo e.nm) ++ bNames.map He.Fa.free
structure SaysC (T : Txt) (w : World) (K : PySem.W.Frag) : Prop where
  t : He.SaysT (entFa T) (ents T) (tabsC T) w K
  more : moreC T K = true
  xv : T.xs.map (xW K) = T.xs.map XEnt.val
abbrev AlC : Type := He.AlT × (Bool × List XW)
def obsC (n : Nat) (T : Txt) (g : Addr → Option Obj) : AlC := let K := He.frG g (asC g n (nmsC T) ++ asX g T); (He.obsT (entFa T) (ents T) (tabsC T) K, (moreC T K, T.xs.map (xW K)))
def valC (T : Txt) (w : World) : AlC := (He.valT (ents T) (tabsC T) w, (true, T.xs.map XEnt.val))
def hookC (n : Nat) (T : Txt) : PySem.W.Hook where
  α := AlC
  obs := fun s => obsC n T s.heap.get?
  val := fun w => valC T w
  says := fun w h => ∃ K : PySem.W.Frag, K.In h ∧ SaysC T w K
  of := fun _ _ e => ⟨_, He.frG_in, congrArg (fun z : AlC => z.1) e, congrArg (fun z : AlC => z.2.1) e, congrArg (fun z : AlC => z.2.2) e⟩
  keeps := fun _ _ _ ⟨K, hK, c⟩ k => ⟨K, PySem.W.Frag.In.keeps hK k, c⟩
theorem obsC_eq {n : Nat} {T : Txt} {g : Addr → Option Obj} {s : Shared} (h : ∀ a, g a = s.heap.get? a) : obsC n T g = (hookC n T).obs s := by
  have e : g = s.heap.get? := funext h
  rw [e] <;> rfl
theorem said {T : Txt} {w : World} {K : PySem.W.Frag} {h : Heap} {mg : Str → Option Value} (KX : K.In h) (G : h.Ns mainGlobals mg) (c : SaysC T w K) :
    (∀ x ∈ bNames, mg x = none) ∧ (∀ e ∈ T.T, ∃ a fd, mg e.nm = some (.ref a) ∧ FunD K e.nm e.nm e.params e.body e.scope [] [] a fd) ∧ (∀ x d, (x, d) ∈ T.cs → CstOk K mg x d) ∧ (∀ x kv, (x, kv) ∈ T.ts → DctOk K w mg x kv) ∧ (T.xs.all fun e => xB K T e) = true ∧ ∀ e ∈ T.xs, xW K e = e.val := by
  have cd := c.t.d
  have cm := c.more
  unfold moreC at cm
  rw [Bool.and_eq_true, Bool.and_eq_true] at cm
  obtain ⟨cm, cx⟩ := cm
  refine ⟨fun x hx => ?_, fun e he => ?_, fun x d hx => ?_, fun x kv hx => ?_, cx, fun e he => ?_⟩
  · have m : He.Fa.free x ∈ entFa T := List.mem_append.2 (.inr (List.mem_map.2 ⟨x, hx, rfl⟩))
    obtain ⟨i, hi⟩ := List.mem_iff_getElem?.1 m
    exact He.free_ok KX G (cd.fact i hi)
  · have m : He.Fa.glo e.nm ∈ entFa T := List.mem_append.2 (.inl (List.mem_map.2 ⟨e, he, rfl⟩))
    obtain ⟨i, hi⟩ := List.mem_iff_getElem?.1 m
    have m2 : e.d ∈ ents T := List.mem_map.2 ⟨e, he, rfl⟩
    obtain ⟨j, hj⟩ := List.mem_iff_getElem?.1 m2
    obtain ⟨fd, F⟩ := cd.def_ j hj
    exact ⟨_, fd, He.glo_ok KX G (cd.fact i hi), F⟩
  · exact cstK_ok KX G (List.all_eq_true.1 cm.1 _ hx)
  · have m : ((fun K => He.ga K x, kv.map (·.1)) : He.Tab) ∈ tabsC T := List.mem_map.2 ⟨(x, kv), hx, rfl⟩
    obtain ⟨i, hi⟩ := List.mem_iff_getElem?.1 m
    exact dctK_ok KX G (List.all_eq_true.1 cm.2 _ hx) (c.t.tab i hi)
  · obtain ⟨i, hi⟩ := List.mem_iff_getElem?.1 he
    have e2 : (T.xs.map (xW K))[i]? = (T.xs.map XEnt.val)[i]? := by rw [c.xv]
    rw [List.getElem?_map, List.getElem?_map, hi] at e2
    exact Option.some.inj e2
end Ev
set_option Elab.async false
set_option linter.all false
set_option maxRecDepth 100000
set_option maxHeartbeats 1000000
/-! EvD2: a law's end. -/
namespace Ev
open PySem PySem.Spec PyProof.Rows L2

theorem only_fz {K : PySem.W.Frag} {H : Hp} {a : Addr} {xs : List V} (hO : Only H) (hS : SqL K H a xs) : FzL K H a xs := by
  rcases hS with (h | ⟨o, h⟩) | h
  · rcases hO a with e | ⟨o, ys, e⟩
    · rw [e] at h; cases h
    · rw [e] at h; cases h
  · exact .inl ⟨o, h⟩
  · exact .inr h
theorem bits_log {z : Int} (h : Builtin.Int.intBits z ≤ 1048576) : z.natAbs.log2 < 1048576 := by
  unfold Builtin.Int.intBits at h
  split at h
  · rename_i e
    have e' : z = 0 := by simpa using e
    subst e'
    decide
  · omega
theorem law_end {l : PySem.W.OpenLaw} {n k : Nat} {q : Program} {loose : List Str} {XP : (Str → Option Value) → Heap → Prop} {d : DefRec} {T : Txt} {e : Ent}
    (hn : l.most = some n) (hn2 : n ≤ sizeLine) (hdf : d.params.defaults = []) (hr : Room (k + 2) callerA) (hT : (T.T.all fun e => entOk T.G e) = true) (he : e ∈ T.T) (hp : progOf T e.nm = some e.df) (hd : d.name = e.nm) (hs : e.ps = [Str.ofString "script"]) (hsp : LawW (progOf T) k n e.nm) (hxs : (T.xs.all xentOk) = true) (hfl : T.xs = [] ∨ (l.prog.main.file = T.file ∧ (l.prog.main.scope.names.lookup ("super" : Str)).isSome = false)) :
    PySem.W.WalkO q loose XP (hookC 2 T).says l.row.toRowW d [] (fun f vs => PySem.call f vs) := by
  have hT' := fun e he => List.all_eq_true.1 hT e he
  refine Att.attach_callB hn hdf fun w s₀ s₁ mg mb fa o pm cd doc a vs ns G Y ho hd' hcd hmg hobj hints hlen hbits hg => ?_
  obtain ⟨K, KX, c⟩ := Y
  obtain ⟨bi, fx, hcs, hts, hxb, hxv⟩ := said KX G.T.g c
  obtain ⟨a', fd, hm, F⟩ := fx e he
  have ea : fa = a' := by
    rw [hd, hm] at hmg
    cases hmg
    rfl
  subst ea
  have h1 := hT' e he
  unfold entOk at h1
  simp only [Bool.and_eq_true, decide_eq_true_eq] at h1
  have hnp : e.df.np = 1 := by
    rw [← h1.2.2.1, hs]
    rfl
  have hb : ∀ (s : Shared) (u : Value), BindsTo s fd ⟨[u], []⟩ [((Str.ofString "script", u) : Str × Value)] := fun s u => by
    have pa := h1.2.1
    unfold plainA at pa
    simp only [Bool.and_eq_true, decide_eq_true_eq, List.isEmpty_iff, Option.isNone_iff_eq_none] at pa
    obtain ⟨q1, q2, q3, q4, q5⟩ := pa
    have r := FunD.bindsA (ps := [Str.ofString "script"]) F (fun kV doc pm an cdv ct us hl => bind_plain q1 hs q2 q3 q4 (by rw [← hs]; exact q5) hl) s [u] rfl
    exact r
  have hxa : ∀ base, XcAll l.prog w K mg base T.xt := fun base => by
    rcases hfl with z | ⟨z1, z2⟩
    · refine ⟨fun c fs fm hm => ?_, fun c hc => ?_⟩
      · unfold Txt.xt at hm
        rw [z] at hm
        cases hm
      · unfold Txt.xt at hc
        rw [z] at hc
        cases hc
    · exact xcAll_ok KX G.T.g bi hxs hxb hxv z1 z2 base
  refine law_call (CX := L2.CX l.prog w) (sp := spOf K mg (progOf T) k e.nm e.df.np) KX G.T.g G.T.b G.T.builtins G.T.nolimit hg hobj hints (Nat.le_trans hlen hn2) hr (fun base kb nb => ?_) hb (fun H hO hS => ?_) ?_
  · have r := fn_ok (P := l.prog) (w := w) (base := base) hT' bi hcs hts (hxa base) fx k e he hp fa fd F
    rw [hs] at r
    exact r
  · refine ⟨by rw [hnp]; rfl, [.fz (ns.map .int)], fun _ => none, _, _, .cons (.fz (only_fz hO hS) ?_) .nil, fun a o z => (nomatch z), hsp ns hlen (fun z hz => bits_log (hbits z hz)), fun d S' v H' hd e rs rv => ?_, fun x S' cls dd H' z => z.elim⟩
    · have rm : ∀ l : List Int, RVs K H (l.map D.int) (l.map V.int) := fun l => by
        induction l with
        | nil => exact .nil
        | cons i l ih => exact .cons (.int i) ih
      exact rm ns
    · subst hd
      cases rv
      rfl
  · intro H e' s' ⟨_, _, _, _, _, _, _, _, _, _, _, _, z⟩
    exact z
end Ev
set_option Elab.async false
set_option linter.all false
set_option maxRecDepth 100000
/-! EvX: rules to walk by, over plain data. -/
namespace Ev
open PySem (Str)
def bkW (S S0 : Sto) (K : DK) : DK := fun x S' => ∃ S'', Sub S'' S' ∧ K x (mrg S S0 S'')
def bkEW (S S0 : Sto) (E : XK) : XK := fun x S' => ∃ S'', Sub S'' S' ∧ E x (mrg S S0 S'')
@[irreducible] def exX : Cs → Ex → Loc → XK → Sto → DK → Prop := exW
theorem exX_eq : exX = exW := by unfold exX; rfl
@[irreducible] def exsX : Cs → Exs → Loc → XK → Sto → (List D → Sto → Prop) → Prop := exsW
theorem exsX_eq : exsX = exsW := by unfold exsX; rfl
@[irreducible] def oeX : Cs → Oe → Loc → XK → Sto → (Option Int → Sto → Prop) → Prop := oeW
theorem oeX_eq : oeX = oeW := by unfold oeX; rfl
@[irreducible] def ocX : Cs → Oe → Loc → Sto → (Bool → Sto → Prop) → Prop := ocW
theorem ocX_eq : ocX = ocW := by unfold ocX; rfl
@[irreducible] def itX : Cs → It → Loc → XK → Sto → (List D → (Sto → Prop) → Sto → Prop) → Prop := itW
theorem itX_eq : itX = itW := by unfold itX; rfl
@[irreducible] def sxX : Cs → Sx → Loc → Sto → Ks → Prop := sxW
theorem sxX_eq : sxX = sxW := by unfold sxX; rfl
@[irreducible] def sxsX : Cs → Sxs → Loc → Sto → Ks → Prop := sxsW
theorem sxsX_eq : sxsX = sxsW := by unfold sxsX; rfl
@[irreducible] def binX : Bop → D → D → Sto → DK → Prop := binW
theorem binX_eq : binX = binW := by unfold binX; rfl
@[irreducible] def cmpX : Cop → D → D → Sto → (Bool → Prop) → Prop := cmpW
theorem cmpX_eq : cmpX = cmpW := by unfold cmpX; rfl
@[irreducible] def idxX : D → D → Sto → (D → Prop) → Prop := idxW
theorem idxX_eq : idxX = idxW := by unfold idxX; rfl
@[irreducible] def bltX : Bf → List D → Sto → DK → Prop := bltW
theorem bltX_eq : bltX = bltW := by unfold bltX; rfl
@[irreducible] def slcX : D → Option Int → Option Int → Sto → DK → Prop := slcW
theorem slcX_eq : slcX = slcW := by unfold slcX; rfl
@[irreducible] def isiX : Sto → D → Ty → (Bool → Prop) → Prop := isiD
theorem isiX_eq : isiX = isiD := by unfold isiX; rfl
@[irreducible] def rcvX : Mt → D → Sto → Prop := rcvW
theorem rcvX_eq : rcvX = rcvW := by unfold rcvX; rfl
@[irreducible] def mthX : Mt → D → List D → Sto → DK → Prop := mthW
theorem mthX_eq : mthX = mthW := by unfold mthX; rfl
@[irreducible] def tgX : Tg → D → Loc → (Loc → Prop) → Prop := tgW
theorem tgX_eq : tgX = tgW := by unfold tgX; rfl
@[irreducible] def taX : Sto → Tg → D → Loc → (Loc → Prop) → Prop := taW
theorem taX_eq : taX = taW := by unfold taX; rfl
@[irreducible] def tgsX : Tgs → List D → Loc → (Loc → Prop) → Prop := tgsW
theorem tgsX_eq : tgsX = tgsW := by unfold tgsX; rfl
@[irreducible] def forX : (Sto → Prop) → (D → Loc → Sto → (Loc → Sto → Prop) → Prop) → List D → Loc → Sto → (Loc → Sto → Prop) → Prop := forW
theorem forX_eq : forX = forW := by unfold forX; rfl
@[irreducible] def lcX : (Sto → Prop) → (D → Sto → (Option D → Sto → Prop) → Prop) → List D → List D → Sto → (List D → Sto → Prop) → Prop := lcW
theorem lcX_eq : lcX = lcW := by unfold lcX; rfl
@[irreducible] def itvX : D → Sto → (List D → (Sto → Prop) → Prop) → Prop := itvW
theorem itvX_eq : itvX = itvW := by unfold itvX; rfl
@[irreducible] def itlX : D → Sto → (List D → (Sto → Prop) → Prop) → Prop := itlW
theorem itlX_eq : itlX = itlW := by unfold itlX; rfl
@[irreducible] def zipX : D → D → Sto → (List D → (Sto → Prop) → Prop) → Prop := zipW
theorem zipX_eq : zipX = zipW := by unfold zipX; rfl
@[irreducible] def augX : Bop → D → D → Sto → DK → Prop := augW
theorem augX_eq : augX = augW := by unfold augX; rfl
@[irreducible] def subX : D → D → D → Sto → (Sto → Prop) → Prop := subW
theorem subX_eq : subX = subW := by unfold subX; rfl
@[irreducible] def callX : Prog → Nat → CallT := callW
theorem callX_eq : callX = callW := by unfold callX; rfl
@[irreducible] def newX : List D → Sto → DK → Prop := newl
theorem newX_eq : newX = newl := by unfold newX; rfl
@[irreducible] def slrX : D → Sto → DK → Prop := slrW
theorem slrX_eq : slrX = slrW := by unfold slrX; rfl
@[irreducible] def frX : DK → DK := frW
theorem frX_eq : frX = frW := by unfold frX; rfl
@[irreducible] def bkX : Sto → Sto → DK → DK := bkW
theorem bkX_eq : bkX = bkW := by unfold bkX; rfl
@[irreducible] def bkE : Sto → Sto → XK → XK := bkEW
theorem bkE_eq : bkE = bkEW := by unfold bkE; rfl
@[irreducible] def truX (S : Sto) (x : D) (P : Bool → Prop) : Prop := ofO (truth? S x) P
theorem truX_eq : truX = fun S x P => ofO (truth? S x) P := by funext S x P; unfold truX; rfl
@[irreducible] def rgX (x : D) (K : List D → Prop) : Prop := ∃ i, x = .int i ∧ small62 i ∧ K ((List.range i.toNat).map fun (k : Nat) => .int k)
theorem rgX_eq : rgX = fun x K => ∃ i, x = .int i ∧ small62 i ∧ K ((List.range i.toNat).map fun (k : Nat) => .int k) := by funext x K; unfold rgX; rfl
@[irreducible] def rg2X (x y : D) (K : List D → Prop) : Prop := ∃ i j, x = .int i ∧ y = .int j ∧ small62 i ∧ small62 j ∧ K ((List.range (j - i).toNat).map fun (k : Nat) => .int (i + k))
theorem rg2X_eq : rg2X = fun x y K => ∃ i j, x = .int i ∧ y = .int j ∧ small62 i ∧ small62 j ∧ K ((List.range (j - i).toNat).map fun (k : Nat) => .int (i + k)) := by funext x y K; unfold rg2X; rfl
@[irreducible] def rgdX (x y : D) (K : List D → Prop) : Prop := ∃ i j, x = .int i ∧ y = .int j ∧ small62 i ∧ small62 j ∧ K ((List.range (i - j).toNat).map fun (k : Nat) => .int (i - k))
theorem rgdX_eq : rgdX = fun x y K => ∃ i j, x = .int i ∧ y = .int j ∧ small62 i ∧ small62 j ∧ K ((List.range (i - j).toNat).map fun (k : Nat) => .int (i - k)) := by funext x y K; unfold rgdX; rfl
@[irreducible] def rglX (x : D) (S : Sto) (K : DK) : Prop := ∃ i, x = .int i ∧ i < 2 ^ 24 ∧ -(2 ^ 62) < i ∧ newX ((List.range i.toNat).map fun (k : Nat) => .int k) S K
theorem rglX_eq : rglX = fun x S K => ∃ i, x = .int i ∧ i < 2 ^ 24 ∧ -(2 ^ 62) < i ∧ newX ((List.range i.toNat).map fun (k : Nat) => .int k) S K := by funext x S K; unfold rglX; rfl
@[irreducible] def rgtX (x : D) (S : Sto) (K : DK) : Prop := ∃ i, x = .int i ∧ i < 2 ^ 24 ∧ -(2 ^ 62) < i ∧ K (.tup ((List.range i.toNat).map fun (k : Nat) => .int k)) S
theorem rgtX_eq : rgtX = fun x S K => ∃ i, x = .int i ∧ i < 2 ^ 24 ∧ -(2 ^ 62) < i ∧ K (.tup ((List.range i.toNat).map fun (k : Nat) => .int k)) S := by funext x S K; unfold rgtX; rfl
/-! ### plain numbers -/
def blN (m : Nat) : Nat := if m = 0 then 0 else m.log2 + 1
theorem band_nat (a b : Nat) : band a b = ((a &&& b : Nat) : Int) := by
  unfold band
  rw [if_pos (Int.natCast_nonneg a), if_pos (Int.natCast_nonneg b), Int.toNat_natCast, Int.toNat_natCast]
  rfl
theorem bnot_bnot (x : Int) : bnot (bnot x) = x := by unfold bnot; omega
theorem bnot_neg (a : Nat) : ¬ (0 ≤ bnot (a : Int)) := by unfold bnot; omega
theorem bor_nat (a b : Nat) : bor a b = ((a ||| b : Nat) : Int) := by
  unfold bor
  show bnot (band (bnot a) (bnot b)) = _
  unfold band
  rw [if_neg (bnot_neg a), if_neg (bnot_neg b), bnot_bnot, bnot_bnot, bnot_bnot, Int.toNat_natCast, Int.toNat_natCast]
  rfl
/-- a without b -/
def dif (a b : Nat) : Nat := a - (a &&& b)
theorem band_bnot (a b : Nat) : band a (bnot b) = ((dif a b : Nat) : Int) := by
  unfold band dif
  rw [if_pos (Int.natCast_nonneg a), if_neg (bnot_neg b), bnot_bnot, Int.toNat_natCast, Int.toNat_natCast]
  have := Nat.and_le_left (n := a) (m := b)
  show (a : Int) - ((a &&& b : Nat) : Int) = _
  omega
section
variable {C : Cs} {σ : Loc} {E : XK} {S : Sto} {K : DK}
theorem ex_var {i : Nat} {d : D} (k : K d S) (h : σ[i]? = some (some d)) : exX C (.var i) σ E S K := by
  simp only [exX_eq, exsX_eq, oeX_eq, ocX_eq, itX_eq, sxX_eq, sxsX_eq, binX_eq, cmpX_eq, idxX_eq, bltX_eq, slcX_eq, isiX_eq, rcvX_eq, mthX_eq, tgX_eq, taX_eq, tgsX_eq, forX_eq, lcX_eq, itvX_eq, itlX_eq, zipX_eq, augX_eq, subX_eq, callX_eq, newX_eq, slrX_eq, frX_eq, bkX_eq, bkE_eq, truX_eq, rgX_eq, rg2X_eq, rgdX_eq, rglX_eq, rgtX_eq] at *
  exact ⟨d, h, k⟩
theorem ex_v0 {r : Loc} {d : D} (k : K d S) : exX C (.var 0) (some d :: r) E S K := ex_var k rfl
theorem ex_v1 {a0 : Option D} {r : Loc} {d : D} (k : K d S) : exX C (.var 1) (a0 :: some d :: r) E S K := ex_var k rfl
theorem ex_v2 {a0 a1 : Option D} {r : Loc} {d : D} (k : K d S) : exX C (.var 2) (a0 :: a1 :: some d :: r) E S K := ex_var k rfl
theorem ex_v3 {a0 a1 a2 : Option D} {r : Loc} {d : D} (k : K d S) : exX C (.var 3) (a0 :: a1 :: a2 :: some d :: r) E S K := ex_var k rfl
theorem ex_v4 {a0 a1 a2 a3 : Option D} {r : Loc} {d : D} (k : K d S) : exX C (.var 4) (a0 :: a1 :: a2 :: a3 :: some d :: r) E S K := ex_var k rfl
theorem ex_v5 {a0 a1 a2 a3 a4 : Option D} {r : Loc} {d : D} (k : K d S) : exX C (.var 5) (a0 :: a1 :: a2 :: a3 :: a4 :: some d :: r) E S K := ex_var k rfl
theorem ex_v6 {a0 a1 a2 a3 a4 a5 : Option D} {r : Loc} {d : D} (k : K d S) : exX C (.var 6) (a0 :: a1 :: a2 :: a3 :: a4 :: a5 :: some d :: r) E S K := ex_var k rfl
theorem ex_v7 {a0 a1 a2 a3 a4 a5 a6 : Option D} {r : Loc} {d : D} (k : K d S) : exX C (.var 7) (a0 :: a1 :: a2 :: a3 :: a4 :: a5 :: a6 :: some d :: r) E S K := ex_var k rfl
theorem ex_v8 {a0 a1 a2 a3 a4 a5 a6 a7 : Option D} {r : Loc} {d : D} (k : K d S) : exX C (.var 8) (a0 :: a1 :: a2 :: a3 :: a4 :: a5 :: a6 :: a7 :: some d :: r) E S K := ex_var k rfl
theorem ex_v9 {a0 a1 a2 a3 a4 a5 a6 a7 a8 : Option D} {r : Loc} {d : D} (k : K d S) : exX C (.var 9) (a0 :: a1 :: a2 :: a3 :: a4 :: a5 :: a6 :: a7 :: a8 :: some d :: r) E S K := ex_var k rfl
theorem ex_v10 {a0 a1 a2 a3 a4 a5 a6 a7 a8 a9 : Option D} {r : Loc} {d : D} (k : K d S) : exX C (.var 10) (a0 :: a1 :: a2 :: a3 :: a4 :: a5 :: a6 :: a7 :: a8 :: a9 :: some d :: r) E S K := ex_var k rfl
theorem ex_v11 {a0 a1 a2 a3 a4 a5 a6 a7 a8 a9 a10 : Option D} {r : Loc} {d : D} (k : K d S) : exX C (.var 11) (a0 :: a1 :: a2 :: a3 :: a4 :: a5 :: a6 :: a7 :: a8 :: a9 :: a10 :: some d :: r) E S K := ex_var k rfl
theorem ex_v12 {a0 a1 a2 a3 a4 a5 a6 a7 a8 a9 a10 a11 : Option D} {r : Loc} {d : D} (k : K d S) : exX C (.var 12) (a0 :: a1 :: a2 :: a3 :: a4 :: a5 :: a6 :: a7 :: a8 :: a9 :: a10 :: a11 :: some d :: r) E S K := ex_var k rfl
theorem ex_v13 {a0 a1 a2 a3 a4 a5 a6 a7 a8 a9 a10 a11 a12 : Option D} {r : Loc} {d : D} (k : K d S) : exX C (.var 13) (a0 :: a1 :: a2 :: a3 :: a4 :: a5 :: a6 :: a7 :: a8 :: a9 :: a10 :: a11 :: a12 :: some d :: r) E S K := ex_var k rfl
theorem ex_v14 {a0 a1 a2 a3 a4 a5 a6 a7 a8 a9 a10 a11 a12 a13 : Option D} {r : Loc} {d : D} (k : K d S) : exX C (.var 14) (a0 :: a1 :: a2 :: a3 :: a4 :: a5 :: a6 :: a7 :: a8 :: a9 :: a10 :: a11 :: a12 :: a13 :: some d :: r) E S K := ex_var k rfl
theorem ex_v15 {a0 a1 a2 a3 a4 a5 a6 a7 a8 a9 a10 a11 a12 a13 a14 : Option D} {r : Loc} {d : D} (k : K d S) : exX C (.var 15) (a0 :: a1 :: a2 :: a3 :: a4 :: a5 :: a6 :: a7 :: a8 :: a9 :: a10 :: a11 :: a12 :: a13 :: a14 :: some d :: r) E S K := ex_var k rfl
theorem ex_v16 {a0 a1 a2 a3 a4 a5 a6 a7 a8 a9 a10 a11 a12 a13 a14 a15 : Option D} {r : Loc} {d : D} (k : K d S) : exX C (.var 16) (a0 :: a1 :: a2 :: a3 :: a4 :: a5 :: a6 :: a7 :: a8 :: a9 :: a10 :: a11 :: a12 :: a13 :: a14 :: a15 :: some d :: r) E S K := ex_var k rfl
theorem ex_v17 {a0 a1 a2 a3 a4 a5 a6 a7 a8 a9 a10 a11 a12 a13 a14 a15 a16 : Option D} {r : Loc} {d : D} (k : K d S) : exX C (.var 17) (a0 :: a1 :: a2 :: a3 :: a4 :: a5 :: a6 :: a7 :: a8 :: a9 :: a10 :: a11 :: a12 :: a13 :: a14 :: a15 :: a16 :: some d :: r) E S K := ex_var k rfl
theorem ex_v18 {a0 a1 a2 a3 a4 a5 a6 a7 a8 a9 a10 a11 a12 a13 a14 a15 a16 a17 : Option D} {r : Loc} {d : D} (k : K d S) : exX C (.var 18) (a0 :: a1 :: a2 :: a3 :: a4 :: a5 :: a6 :: a7 :: a8 :: a9 :: a10 :: a11 :: a12 :: a13 :: a14 :: a15 :: a16 :: a17 :: some d :: r) E S K := ex_var k rfl
theorem ex_v19 {a0 a1 a2 a3 a4 a5 a6 a7 a8 a9 a10 a11 a12 a13 a14 a15 a16 a17 a18 : Option D} {r : Loc} {d : D} (k : K d S) : exX C (.var 19) (a0 :: a1 :: a2 :: a3 :: a4 :: a5 :: a6 :: a7 :: a8 :: a9 :: a10 :: a11 :: a12 :: a13 :: a14 :: a15 :: a16 :: a17 :: a18 :: some d :: r) E S K := ex_var k rfl
theorem ex_v20 {a0 a1 a2 a3 a4 a5 a6 a7 a8 a9 a10 a11 a12 a13 a14 a15 a16 a17 a18 a19 : Option D} {r : Loc} {d : D} (k : K d S) : exX C (.var 20) (a0 :: a1 :: a2 :: a3 :: a4 :: a5 :: a6 :: a7 :: a8 :: a9 :: a10 :: a11 :: a12 :: a13 :: a14 :: a15 :: a16 :: a17 :: a18 :: a19 :: some d :: r) E S K := ex_var k rfl
theorem ex_v21 {a0 a1 a2 a3 a4 a5 a6 a7 a8 a9 a10 a11 a12 a13 a14 a15 a16 a17 a18 a19 a20 : Option D} {r : Loc} {d : D} (k : K d S) : exX C (.var 21) (a0 :: a1 :: a2 :: a3 :: a4 :: a5 :: a6 :: a7 :: a8 :: a9 :: a10 :: a11 :: a12 :: a13 :: a14 :: a15 :: a16 :: a17 :: a18 :: a19 :: a20 :: some d :: r) E S K := ex_var k rfl
theorem ex_v22 {a0 a1 a2 a3 a4 a5 a6 a7 a8 a9 a10 a11 a12 a13 a14 a15 a16 a17 a18 a19 a20 a21 : Option D} {r : Loc} {d : D} (k : K d S) : exX C (.var 22) (a0 :: a1 :: a2 :: a3 :: a4 :: a5 :: a6 :: a7 :: a8 :: a9 :: a10 :: a11 :: a12 :: a13 :: a14 :: a15 :: a16 :: a17 :: a18 :: a19 :: a20 :: a21 :: some d :: r) E S K := ex_var k rfl
theorem ex_v23 {a0 a1 a2 a3 a4 a5 a6 a7 a8 a9 a10 a11 a12 a13 a14 a15 a16 a17 a18 a19 a20 a21 a22 : Option D} {r : Loc} {d : D} (k : K d S) : exX C (.var 23) (a0 :: a1 :: a2 :: a3 :: a4 :: a5 :: a6 :: a7 :: a8 :: a9 :: a10 :: a11 :: a12 :: a13 :: a14 :: a15 :: a16 :: a17 :: a18 :: a19 :: a20 :: a21 :: a22 :: some d :: r) E S K := ex_var k rfl
theorem ex_non (k : K .non S) : exX C .non σ E S K := by
  simp only [exX_eq, exsX_eq, oeX_eq, ocX_eq, itX_eq, sxX_eq, sxsX_eq, binX_eq, cmpX_eq, idxX_eq, bltX_eq, slcX_eq, isiX_eq, rcvX_eq, mthX_eq, tgX_eq, taX_eq, tgsX_eq, forX_eq, lcX_eq, itvX_eq, itlX_eq, zipX_eq, augX_eq, subX_eq, callX_eq, newX_eq, slrX_eq, frX_eq, bkX_eq, bkE_eq, truX_eq, rgX_eq, rg2X_eq, rgdX_eq, rglX_eq, rgtX_eq] at *
  exact k
theorem ex_bl {b} (k : K (.bl b) S) : exX C (.bl b) σ E S K := by
  simp only [exX_eq, exsX_eq, oeX_eq, ocX_eq, itX_eq, sxX_eq, sxsX_eq, binX_eq, cmpX_eq, idxX_eq, bltX_eq, slcX_eq, isiX_eq, rcvX_eq, mthX_eq, tgX_eq, taX_eq, tgsX_eq, forX_eq, lcX_eq, itvX_eq, itlX_eq, zipX_eq, augX_eq, subX_eq, callX_eq, newX_eq, slrX_eq, frX_eq, bkX_eq, bkE_eq, truX_eq, rgX_eq, rg2X_eq, rgdX_eq, rglX_eq, rgtX_eq] at *
  exact k
theorem ex_int {b} (k : K (.int b) S) : exX C (.int b) σ E S K := by
  simp only [exX_eq, exsX_eq, oeX_eq, ocX_eq, itX_eq, sxX_eq, sxsX_eq, binX_eq, cmpX_eq, idxX_eq, bltX_eq, slcX_eq, isiX_eq, rcvX_eq, mthX_eq, tgX_eq, taX_eq, tgsX_eq, forX_eq, lcX_eq, itvX_eq, itlX_eq, zipX_eq, augX_eq, subX_eq, callX_eq, newX_eq, slrX_eq, frX_eq, bkX_eq, bkE_eq, truX_eq, rgX_eq, rg2X_eq, rgdX_eq, rglX_eq, rgtX_eq] at *
  exact k
theorem ex_str {b} (k : K (.str b) S) : exX C (.str b) σ E S K := by
  simp only [exX_eq, exsX_eq, oeX_eq, ocX_eq, itX_eq, sxX_eq, sxsX_eq, binX_eq, cmpX_eq, idxX_eq, bltX_eq, slcX_eq, isiX_eq, rcvX_eq, mthX_eq, tgX_eq, taX_eq, tgsX_eq, forX_eq, lcX_eq, itvX_eq, itlX_eq, zipX_eq, augX_eq, subX_eq, callX_eq, newX_eq, slrX_eq, frX_eq, bkX_eq, bkE_eq, truX_eq, rgX_eq, rg2X_eq, rgdX_eq, rglX_eq, rgtX_eq] at *
  exact k
theorem ex_cst {x : Str} {d : D} (k : K d S) : exX C (.cst x d) σ E S K := by
  simp only [exX_eq, exsX_eq, oeX_eq, ocX_eq, itX_eq, sxX_eq, sxsX_eq, binX_eq, cmpX_eq, idxX_eq, bltX_eq, slcX_eq, isiX_eq, rcvX_eq, mthX_eq, tgX_eq, taX_eq, tgsX_eq, forX_eq, lcX_eq, itvX_eq, itlX_eq, zipX_eq, augX_eq, subX_eq, callX_eq, newX_eq, slrX_eq, frX_eq, bkX_eq, bkE_eq, truX_eq, rgX_eq, rg2X_eq, rgdX_eq, rglX_eq, rgtX_eq] at *
  exact k
theorem ex_cix {x : Str} {kv : List (Str × D)} {a : Ex} (k : exX C a σ E S fun y S1 => ∃ z d, y = .str z ∧ kv.lookup z = some d ∧ K d S1) : exX C (.cix x kv a) σ E S K := by
  simp only [exX_eq, exsX_eq, oeX_eq, ocX_eq, itX_eq, sxX_eq, sxsX_eq, binX_eq, cmpX_eq, idxX_eq, bltX_eq, slcX_eq, isiX_eq, rcvX_eq, mthX_eq, tgX_eq, taX_eq, tgsX_eq, forX_eq, lcX_eq, itvX_eq, itlX_eq, zipX_eq, augX_eq, subX_eq, callX_eq, newX_eq, slrX_eq, frX_eq, bkX_eq, bkE_eq, truX_eq, rgX_eq, rg2X_eq, rgdX_eq, rglX_eq, rgtX_eq] at *
  exact k
theorem cx_at {z : Str} {kv : List (Str × D)} {d : D} {P : D → Prop} (h : kv.lookup z = some d) (k : P d) : ∃ z' d', D.str z = .str z' ∧ kv.lookup z' = some d' ∧ P d' := ⟨z, d, rfl, h, k⟩
theorem ex_tup {es} (k : exsX C es σ E S fun l S' => l.length ≤ line ∧ K (.tup l) S') : exX C (.tup es) σ E S K := by
  simp only [exX_eq, exsX_eq, oeX_eq, ocX_eq, itX_eq, sxX_eq, sxsX_eq, binX_eq, cmpX_eq, idxX_eq, bltX_eq, slcX_eq, isiX_eq, rcvX_eq, mthX_eq, tgX_eq, taX_eq, tgsX_eq, forX_eq, lcX_eq, itvX_eq, itlX_eq, zipX_eq, augX_eq, subX_eq, callX_eq, newX_eq, slrX_eq, frX_eq, bkX_eq, bkE_eq, truX_eq, rgX_eq, rg2X_eq, rgdX_eq, rglX_eq, rgtX_eq] at *
  exact k
theorem ex_lst {es} (k : exsX C es σ E S fun l S' => l.length ≤ line ∧ newX l S' K) : exX C (.lst es) σ E S K := by
  simp only [exX_eq, exsX_eq, oeX_eq, ocX_eq, itX_eq, sxX_eq, sxsX_eq, binX_eq, cmpX_eq, idxX_eq, bltX_eq, slcX_eq, isiX_eq, rcvX_eq, mthX_eq, tgX_eq, taX_eq, tgsX_eq, forX_eq, lcX_eq, itvX_eq, itlX_eq, zipX_eq, augX_eq, subX_eq, callX_eq, newX_eq, slrX_eq, frX_eq, bkX_eq, bkE_eq, truX_eq, rgX_eq, rg2X_eq, rgdX_eq, rglX_eq, rgtX_eq] at *
  exact k
theorem ex_dic0 (k : ∀ p, S p = none → K (.ref p) (put S p (.dic []))) : exX C .dic0 σ E S K := by
  simp only [exX_eq, exsX_eq, oeX_eq, ocX_eq, itX_eq, sxX_eq, sxsX_eq, binX_eq, cmpX_eq, idxX_eq, bltX_eq, slcX_eq, isiX_eq, rcvX_eq, mthX_eq, tgX_eq, taX_eq, tgsX_eq, forX_eq, lcX_eq, itvX_eq, itlX_eq, zipX_eq, augX_eq, subX_eq, callX_eq, newX_eq, slrX_eq, frX_eq, bkX_eq, bkE_eq, truX_eq, rgX_eq, rg2X_eq, rgdX_eq, rglX_eq, rgtX_eq] at *
  exact k
theorem ex_dic1 {a b} (k : exX C a σ E S fun x S1 => exX C b σ E S1 fun y S2 => isKey x = true ∧ ∀ p, S2 p = none → K (.ref p) (put S2 p (.dic [(x, y)]))) : exX C (.dic1 a b) σ E S K := by
  simp only [exX_eq, exsX_eq, oeX_eq, ocX_eq, itX_eq, sxX_eq, sxsX_eq, binX_eq, cmpX_eq, idxX_eq, bltX_eq, slcX_eq, isiX_eq, rcvX_eq, mthX_eq, tgX_eq, taX_eq, tgsX_eq, forX_eq, lcX_eq, itvX_eq, itlX_eq, zipX_eq, augX_eq, subX_eq, callX_eq, newX_eq, slrX_eq, frX_eq, bkX_eq, bkE_eq, truX_eq, rgX_eq, rg2X_eq, rgdX_eq, rglX_eq, rgtX_eq] at *
  exact k
theorem ex_bin {op a b} (k : exX C a σ E S fun x S1 => exX C b σ E S1 fun y S2 => binX op x y S2 K) : exX C (.bin op a b) σ E S K := by
  simp only [exX_eq, exsX_eq, oeX_eq, ocX_eq, itX_eq, sxX_eq, sxsX_eq, binX_eq, cmpX_eq, idxX_eq, bltX_eq, slcX_eq, isiX_eq, rcvX_eq, mthX_eq, tgX_eq, taX_eq, tgsX_eq, forX_eq, lcX_eq, itvX_eq, itlX_eq, zipX_eq, augX_eq, subX_eq, callX_eq, newX_eq, slrX_eq, frX_eq, bkX_eq, bkE_eq, truX_eq, rgX_eq, rg2X_eq, rgdX_eq, rglX_eq, rgtX_eq] at *
  exact k
theorem ex_neg {a} (k : exX C a σ E S fun x S1 => ∃ i, x = .int i ∧ K (.int (-i)) S1) : exX C (.neg a) σ E S K := by
  simp only [exX_eq, exsX_eq, oeX_eq, ocX_eq, itX_eq, sxX_eq, sxsX_eq, binX_eq, cmpX_eq, idxX_eq, bltX_eq, slcX_eq, isiX_eq, rcvX_eq, mthX_eq, tgX_eq, taX_eq, tgsX_eq, forX_eq, lcX_eq, itvX_eq, itlX_eq, zipX_eq, augX_eq, subX_eq, callX_eq, newX_eq, slrX_eq, frX_eq, bkX_eq, bkE_eq, truX_eq, rgX_eq, rg2X_eq, rgdX_eq, rglX_eq, rgtX_eq] at *
  exact k
theorem ex_inv {a} (k : exX C a σ E S fun x S1 => ∃ i, x = .int i ∧ K (.int (bnot i)) S1) : exX C (.inv a) σ E S K := by
  simp only [exX_eq, exsX_eq, oeX_eq, ocX_eq, itX_eq, sxX_eq, sxsX_eq, binX_eq, cmpX_eq, idxX_eq, bltX_eq, slcX_eq, isiX_eq, rcvX_eq, mthX_eq, tgX_eq, taX_eq, tgsX_eq, forX_eq, lcX_eq, itvX_eq, itlX_eq, zipX_eq, augX_eq, subX_eq, callX_eq, newX_eq, slrX_eq, frX_eq, bkX_eq, bkE_eq, truX_eq, rgX_eq, rg2X_eq, rgdX_eq, rglX_eq, rgtX_eq] at *
  exact k
theorem ex_not {a} (k : exX C a σ E S fun x S1 => truX S1 x fun b => K (.bl (!b)) S1) : exX C (.not a) σ E S K := by
  simp only [exX_eq, exsX_eq, oeX_eq, ocX_eq, itX_eq, sxX_eq, sxsX_eq, binX_eq, cmpX_eq, idxX_eq, bltX_eq, slcX_eq, isiX_eq, rcvX_eq, mthX_eq, tgX_eq, taX_eq, tgsX_eq, forX_eq, lcX_eq, itvX_eq, itlX_eq, zipX_eq, augX_eq, subX_eq, callX_eq, newX_eq, slrX_eq, frX_eq, bkX_eq, bkE_eq, truX_eq, rgX_eq, rg2X_eq, rgdX_eq, rglX_eq, rgtX_eq] at *
  exact k
theorem ex_cmp {op a b} (k : exX C a σ E S fun x S1 => exX C b σ E S1 fun y S2 => cmpX op x y S2 fun c => K (.bl c) S2) : exX C (.cmp op a b) σ E S K := by
  simp only [exX_eq, exsX_eq, oeX_eq, ocX_eq, itX_eq, sxX_eq, sxsX_eq, binX_eq, cmpX_eq, idxX_eq, bltX_eq, slcX_eq, isiX_eq, rcvX_eq, mthX_eq, tgX_eq, taX_eq, tgsX_eq, forX_eq, lcX_eq, itvX_eq, itlX_eq, zipX_eq, augX_eq, subX_eq, callX_eq, newX_eq, slrX_eq, frX_eq, bkX_eq, bkE_eq, truX_eq, rgX_eq, rg2X_eq, rgdX_eq, rglX_eq, rgtX_eq] at *
  exact k
theorem ex_chn {o1 o2 a b c} (k : exX C a σ E S fun x S1 => exX C b σ E S1 fun y S2 => cmpX o1 x y S2 fun k => if k = true then exX C c σ E S2 fun z S3 => cmpX o2 y z S3 fun k' => K (.bl k') S3 else K (.bl false) S2) : exX C (.chn o1 o2 a b c) σ E S K := by
  simp only [exX_eq, exsX_eq, oeX_eq, ocX_eq, itX_eq, sxX_eq, sxsX_eq, binX_eq, cmpX_eq, idxX_eq, bltX_eq, slcX_eq, isiX_eq, rcvX_eq, mthX_eq, tgX_eq, taX_eq, tgsX_eq, forX_eq, lcX_eq, itvX_eq, itlX_eq, zipX_eq, augX_eq, subX_eq, callX_eq, newX_eq, slrX_eq, frX_eq, bkX_eq, bkE_eq, truX_eq, rgX_eq, rg2X_eq, rgdX_eq, rglX_eq, rgtX_eq] at *
  exact k
theorem ex_and {a b} (k : exX C a σ E S fun x S1 => truX S1 x fun k => if k = true then exX C b σ E S1 K else K x S1) : exX C (.and a b) σ E S K := by
  simp only [exX_eq, exsX_eq, oeX_eq, ocX_eq, itX_eq, sxX_eq, sxsX_eq, binX_eq, cmpX_eq, idxX_eq, bltX_eq, slcX_eq, isiX_eq, rcvX_eq, mthX_eq, tgX_eq, taX_eq, tgsX_eq, forX_eq, lcX_eq, itvX_eq, itlX_eq, zipX_eq, augX_eq, subX_eq, callX_eq, newX_eq, slrX_eq, frX_eq, bkX_eq, bkE_eq, truX_eq, rgX_eq, rg2X_eq, rgdX_eq, rglX_eq, rgtX_eq] at *
  exact k
theorem ex_or {a b} (k : exX C a σ E S fun x S1 => truX S1 x fun k => if k = true then K x S1 else exX C b σ E S1 K) : exX C (.or a b) σ E S K := by
  simp only [exX_eq, exsX_eq, oeX_eq, ocX_eq, itX_eq, sxX_eq, sxsX_eq, binX_eq, cmpX_eq, idxX_eq, bltX_eq, slcX_eq, isiX_eq, rcvX_eq, mthX_eq, tgX_eq, taX_eq, tgsX_eq, forX_eq, lcX_eq, itvX_eq, itlX_eq, zipX_eq, augX_eq, subX_eq, callX_eq, newX_eq, slrX_eq, frX_eq, bkX_eq, bkE_eq, truX_eq, rgX_eq, rg2X_eq, rgdX_eq, rglX_eq, rgtX_eq] at *
  exact k
theorem ex_ite {c a b} (k : exX C c σ E S fun x S1 => truX S1 x fun k => if k = true then exX C a σ E S1 K else exX C b σ E S1 K) : exX C (.ite c a b) σ E S K := by
  simp only [exX_eq, exsX_eq, oeX_eq, ocX_eq, itX_eq, sxX_eq, sxsX_eq, binX_eq, cmpX_eq, idxX_eq, bltX_eq, slcX_eq, isiX_eq, rcvX_eq, mthX_eq, tgX_eq, taX_eq, tgsX_eq, forX_eq, lcX_eq, itvX_eq, itlX_eq, zipX_eq, augX_eq, subX_eq, callX_eq, newX_eq, slrX_eq, frX_eq, bkX_eq, bkE_eq, truX_eq, rgX_eq, rg2X_eq, rgdX_eq, rglX_eq, rgtX_eq] at *
  exact k
theorem ex_idx {a i} (k : exX C a σ E S fun x S1 => exX C i σ E S1 fun y S2 => idxX x y S2 fun d => K d S2) : exX C (.idx a i) σ E S K := by
  simp only [exX_eq, exsX_eq, oeX_eq, ocX_eq, itX_eq, sxX_eq, sxsX_eq, binX_eq, cmpX_eq, idxX_eq, bltX_eq, slcX_eq, isiX_eq, rcvX_eq, mthX_eq, tgX_eq, taX_eq, tgsX_eq, forX_eq, lcX_eq, itvX_eq, itlX_eq, zipX_eq, augX_eq, subX_eq, callX_eq, newX_eq, slrX_eq, frX_eq, bkX_eq, bkE_eq, truX_eq, rgX_eq, rg2X_eq, rgdX_eq, rglX_eq, rgtX_eq] at *
  exact k
theorem ex_slc {a lo hi} (k : exX C a σ E S fun x S1 => oeX C lo σ E S1 fun l S2 => oeX C hi σ E S2 fun h S3 => slcX x l h S3 K) : exX C (.slc a lo hi) σ E S K := by
  simp only [exX_eq, exsX_eq, oeX_eq, ocX_eq, itX_eq, sxX_eq, sxsX_eq, binX_eq, cmpX_eq, idxX_eq, bltX_eq, slcX_eq, isiX_eq, rcvX_eq, mthX_eq, tgX_eq, taX_eq, tgsX_eq, forX_eq, lcX_eq, itvX_eq, itlX_eq, zipX_eq, augX_eq, subX_eq, callX_eq, newX_eq, slrX_eq, frX_eq, bkX_eq, bkE_eq, truX_eq, rgX_eq, rg2X_eq, rgdX_eq, rglX_eq, rgtX_eq] at *
  exact k
theorem ex_call {P : Prog} {n : Nat} {f es} (k : exsX (callC P n) es σ E S fun l S1 => callX P n f l S1 K E) : exX (callC P n) (.call f es) σ E S K := by
  simp only [exX_eq, exsX_eq, oeX_eq, ocX_eq, itX_eq, sxX_eq, sxsX_eq, binX_eq, cmpX_eq, idxX_eq, bltX_eq, slcX_eq, isiX_eq, rcvX_eq, mthX_eq, tgX_eq, taX_eq, tgsX_eq, forX_eq, lcX_eq, itvX_eq, itlX_eq, zipX_eq, augX_eq, subX_eq, callX_eq, newX_eq, slrX_eq, frX_eq, bkX_eq, bkE_eq, truX_eq, rgX_eq, rg2X_eq, rgdX_eq, rglX_eq, rgtX_eq] at *
  exact k
theorem ex_rgl {a} (k : exX C a σ E S fun x S1 => rglX x S1 K) : exX C (.rgl a) σ E S K := by
  simp only [exX_eq, exsX_eq, oeX_eq, ocX_eq, itX_eq, sxX_eq, sxsX_eq, binX_eq, cmpX_eq, idxX_eq, bltX_eq, slcX_eq, isiX_eq, rcvX_eq, mthX_eq, tgX_eq, taX_eq, tgsX_eq, forX_eq, lcX_eq, itvX_eq, itlX_eq, zipX_eq, augX_eq, subX_eq, callX_eq, newX_eq, slrX_eq, frX_eq, bkX_eq, bkE_eq, truX_eq, rgX_eq, rg2X_eq, rgdX_eq, rglX_eq, rgtX_eq] at *
  exact k
theorem ex_srtr {a} (k : exX C a σ E S fun x S1 => ∃ l, lst? S1 x = some l ∧ ∃ z, ints? l = some z ∧ ∀ z' : List Int, z'.Perm z → z'.Pairwise (fun a b => b ≤ a) → newX (z'.map .int) S1 K) : exX C (.srtr a) σ E S K := by
  simp only [exX_eq, exsX_eq, oeX_eq, ocX_eq, itX_eq, sxX_eq, sxsX_eq, binX_eq, cmpX_eq, idxX_eq, bltX_eq, slcX_eq, isiX_eq, rcvX_eq, mthX_eq, tgX_eq, taX_eq, tgsX_eq, forX_eq, lcX_eq, itvX_eq, itlX_eq, zipX_eq, augX_eq, subX_eq, callX_eq, newX_eq, slrX_eq, frX_eq, bkX_eq, bkE_eq, truX_eq, rgX_eq, rg2X_eq, rgdX_eq, rglX_eq, rgtX_eq] at *
  exact k
theorem ex_rgt {a} (k : exX C a σ E S fun x S1 => rgtX x S1 K) : exX C (.rgt a) σ E S K := by
  simp only [exX_eq, exsX_eq, oeX_eq, ocX_eq, itX_eq, sxX_eq, sxsX_eq, binX_eq, cmpX_eq, idxX_eq, bltX_eq, slcX_eq, isiX_eq, rcvX_eq, mthX_eq, tgX_eq, taX_eq, tgsX_eq, forX_eq, lcX_eq, itvX_eq, itlX_eq, zipX_eq, augX_eq, subX_eq, callX_eq, newX_eq, slrX_eq, frX_eq, bkX_eq, bkE_eq, truX_eq, rgX_eq, rg2X_eq, rgdX_eq, rglX_eq, rgtX_eq] at *
  exact k
theorem ex_revl {a} (k : exX C a σ E S fun x S1 => ∃ l, seq? S1 x = some l ∧ newX l.reverse S1 K) : exX C (.revl a) σ E S K := by
  simp only [exX_eq, exsX_eq, oeX_eq, ocX_eq, itX_eq, sxX_eq, sxsX_eq, binX_eq, cmpX_eq, idxX_eq, bltX_eq, slcX_eq, isiX_eq, rcvX_eq, mthX_eq, tgX_eq, taX_eq, tgsX_eq, forX_eq, lcX_eq, itvX_eq, itlX_eq, zipX_eq, augX_eq, subX_eq, callX_eq, newX_eq, slrX_eq, frX_eq, bkX_eq, bkE_eq, truX_eq, rgX_eq, rg2X_eq, rgdX_eq, rglX_eq, rgtX_eq] at *
  exact k
theorem ex_slr {a} (k : exX C a σ E S fun x S1 => slrX x S1 K) : exX C (.slr a) σ E S K := by
  simp only [exX_eq, exsX_eq, oeX_eq, ocX_eq, itX_eq, sxX_eq, sxsX_eq, binX_eq, cmpX_eq, idxX_eq, bltX_eq, slcX_eq, isiX_eq, rcvX_eq, mthX_eq, tgX_eq, taX_eq, tgsX_eq, forX_eq, lcX_eq, itvX_eq, itlX_eq, zipX_eq, augX_eq, subX_eq, callX_eq, newX_eq, slrX_eq, frX_eq, bkX_eq, bkE_eq, truX_eq, rgX_eq, rg2X_eq, rgdX_eq, rglX_eq, rgtX_eq] at *
  exact k
theorem slr_tup {l : List D} (k : K (.tup l.reverse) S) : slrX (.tup l) S K := by
  simp only [exX_eq, exsX_eq, oeX_eq, ocX_eq, itX_eq, sxX_eq, sxsX_eq, binX_eq, cmpX_eq, idxX_eq, bltX_eq, slcX_eq, isiX_eq, rcvX_eq, mthX_eq, tgX_eq, taX_eq, tgsX_eq, forX_eq, lcX_eq, itvX_eq, itlX_eq, zipX_eq, augX_eq, subX_eq, callX_eq, newX_eq, slrX_eq, frX_eq, bkX_eq, bkE_eq, truX_eq, rgX_eq, rg2X_eq, rgdX_eq, rglX_eq, rgtX_eq] at *
  exact k
theorem slr_fz {l : List D} (k : newX l.reverse S K) : slrX (.fz l) S K := by
  simp only [exX_eq, exsX_eq, oeX_eq, ocX_eq, itX_eq, sxX_eq, sxsX_eq, binX_eq, cmpX_eq, idxX_eq, bltX_eq, slcX_eq, isiX_eq, rcvX_eq, mthX_eq, tgX_eq, taX_eq, tgsX_eq, forX_eq, lcX_eq, itvX_eq, itlX_eq, zipX_eq, augX_eq, subX_eq, callX_eq, newX_eq, slrX_eq, frX_eq, bkX_eq, bkE_eq, truX_eq, rgX_eq, rg2X_eq, rgdX_eq, rglX_eq, rgtX_eq] at *
  exact k
theorem slr_lst {n : Nat} {l : List D} (hn : S n = some (.lst l)) (k : newX l.reverse S K) : slrX (.ref n) S K := by
  simp only [exX_eq, exsX_eq, oeX_eq, ocX_eq, itX_eq, sxX_eq, sxsX_eq, binX_eq, cmpX_eq, idxX_eq, bltX_eq, slcX_eq, isiX_eq, rcvX_eq, mthX_eq, tgX_eq, taX_eq, tgsX_eq, forX_eq, lcX_eq, itvX_eq, itlX_eq, zipX_eq, augX_eq, subX_eq, callX_eq, newX_eq, slrX_eq, frX_eq, bkX_eq, bkE_eq, truX_eq, rgX_eq, rg2X_eq, rgdX_eq, rglX_eq, rgtX_eq] at *
  simpa only [slrW, hn] using k
theorem rv_tup {l : List D} {P : List D → Prop} (k : P l) : ∃ m, seq? S (.tup l) = some m ∧ P m := ⟨l, rfl, k⟩
theorem rv_fz {l : List D} {P : List D → Prop} (k : P l) : ∃ m, seq? S (.fz l) = some m ∧ P m := ⟨l, rfl, k⟩
theorem ex_srtk {P : Prog} {n : Nat} {f a} (k : exX (callC P (n + 1)) a σ E S fun x S1 => ∃ l z, ∃ kx ky : Int → Int, lst? S1 x = some l ∧ ints? l = some z ∧ (∀ i ∈ z, callX P n f [.int i] (fun _ => none) (fun d _ => d = .tup [.int (kx i), .int (ky i)]) noX) ∧
      newX ((z.mergeSort fun a b => decide (kx a < kx b ∨ (kx a = kx b ∧ ky a ≤ ky b))).map .int) S1 K) : exX (callC P (n + 1)) (.srtk f a) σ E S K := by
  simp only [exX_eq, exsX_eq, oeX_eq, ocX_eq, itX_eq, sxX_eq, sxsX_eq, binX_eq, cmpX_eq, idxX_eq, bltX_eq, slcX_eq, isiX_eq, rcvX_eq, mthX_eq, tgX_eq, taX_eq, tgsX_eq, forX_eq, lcX_eq, itvX_eq, itlX_eq, zipX_eq, augX_eq, subX_eq, callX_eq, newX_eq, slrX_eq, frX_eq, bkX_eq, bkE_eq, truX_eq, rgX_eq, rg2X_eq, rgdX_eq, rglX_eq, rgtX_eq] at *
  exact k
theorem ex_blt {f es} (k : exsX C es σ E S fun l S1 => bltX f l S1 K) : exX C (.blt f es) σ E S K := by
  simp only [exX_eq, exsX_eq, oeX_eq, ocX_eq, itX_eq, sxX_eq, sxsX_eq, binX_eq, cmpX_eq, idxX_eq, bltX_eq, slcX_eq, isiX_eq, rcvX_eq, mthX_eq, tgX_eq, taX_eq, tgsX_eq, forX_eq, lcX_eq, itvX_eq, itlX_eq, zipX_eq, augX_eq, subX_eq, callX_eq, newX_eq, slrX_eq, frX_eq, bkX_eq, bkE_eq, truX_eq, rgX_eq, rg2X_eq, rgdX_eq, rglX_eq, rgtX_eq] at *
  exact k
theorem ex_isi {a t} (k : exX C a σ E S fun x S1 => isiX S1 x t fun b => K (.bl b) S1) : exX C (.isi a t) σ E S K := by
  simp only [exX_eq, exsX_eq, oeX_eq, ocX_eq, itX_eq, sxX_eq, sxsX_eq, binX_eq, cmpX_eq, idxX_eq, bltX_eq, slcX_eq, isiX_eq, rcvX_eq, mthX_eq, tgX_eq, taX_eq, tgsX_eq, forX_eq, lcX_eq, itvX_eq, itlX_eq, zipX_eq, augX_eq, subX_eq, callX_eq, newX_eq, slrX_eq, frX_eq, bkX_eq, bkE_eq, truX_eq, rgX_eq, rg2X_eq, rgdX_eq, rglX_eq, rgtX_eq] at *
  exact k
theorem ex_mth {m o es} (k : exX C o σ E S fun x S1 => rcvX m x S1 ∧ exsX C es σ E S1 fun l S2 => mthX m x l S2 K) : exX C (.mth m o es) σ E S K := by
  simp only [exX_eq, exsX_eq, oeX_eq, ocX_eq, itX_eq, sxX_eq, sxsX_eq, binX_eq, cmpX_eq, idxX_eq, bltX_eq, slcX_eq, isiX_eq, rcvX_eq, mthX_eq, tgX_eq, taX_eq, tgsX_eq, forX_eq, lcX_eq, itvX_eq, itlX_eq, zipX_eq, augX_eq, subX_eq, callX_eq, newX_eq, slrX_eq, frX_eq, bkX_eq, bkE_eq, truX_eq, rgX_eq, rg2X_eq, rgdX_eq, rglX_eq, rgtX_eq] at *
  exact k
theorem ex_lc {elt tg it c vs} (k : itX C it σ E S fun ds chk S1 => lcX chk (fun d S2 Kt => tgX tg d (wipe σ vs) fun σ2 => ocX C c σ2 S2 fun b S3 => if b = true then exX C elt σ2 noX S3 fun x S4 => Kt (some x) S4 else Kt none S3) ds [] S1 fun l S5 => newX l S5 K) :
    exX C (.lc elt tg it c vs) σ E S K := by
  simp only [exX_eq, exsX_eq, oeX_eq, ocX_eq, itX_eq, sxX_eq, sxsX_eq, binX_eq, cmpX_eq, idxX_eq, bltX_eq, slcX_eq, isiX_eq, rcvX_eq, mthX_eq, tgX_eq, taX_eq, tgsX_eq, forX_eq, lcX_eq, itvX_eq, itlX_eq, zipX_eq, augX_eq, subX_eq, callX_eq, newX_eq, slrX_eq, frX_eq, bkX_eq, bkE_eq, truX_eq, rgX_eq, rg2X_eq, rgdX_eq, rglX_eq, rgtX_eq] at *
  exact k
theorem ex_cut {e} (Q : D → Sto → Prop) (h : ∀ K' : DK, (∀ x S', Q x S' → K' x S') → exX C e σ E S K') (h2 : ∀ x S', Q x S' → K x S') : exX C e σ E S K := by
  simp only [exX_eq, exsX_eq, oeX_eq, ocX_eq, itX_eq, sxX_eq, sxsX_eq, binX_eq, cmpX_eq, idxX_eq, bltX_eq, slcX_eq, isiX_eq, rcvX_eq, mthX_eq, tgX_eq, taX_eq, tgsX_eq, forX_eq, lcX_eq, itvX_eq, itlX_eq, zipX_eq, augX_eq, subX_eq, callX_eq, newX_eq, slrX_eq, frX_eq, bkX_eq, bkE_eq, truX_eq, rgX_eq, rg2X_eq, rgdX_eq, rglX_eq, rgtX_eq] at *
  exact h K h2
theorem exs_nil {K : List D → Sto → Prop} (k : K [] S) : exsX C .nil σ E S K := by
  simp only [exX_eq, exsX_eq, oeX_eq, ocX_eq, itX_eq, sxX_eq, sxsX_eq, binX_eq, cmpX_eq, idxX_eq, bltX_eq, slcX_eq, isiX_eq, rcvX_eq, mthX_eq, tgX_eq, taX_eq, tgsX_eq, forX_eq, lcX_eq, itvX_eq, itlX_eq, zipX_eq, augX_eq, subX_eq, callX_eq, newX_eq, slrX_eq, frX_eq, bkX_eq, bkE_eq, truX_eq, rgX_eq, rg2X_eq, rgdX_eq, rglX_eq, rgtX_eq] at *
  exact k
theorem exs_cons {e es} {K : List D → Sto → Prop} (k : exX C e σ E S fun x S1 => exsX C es σ E S1 fun l S2 => K (x :: l) S2) : exsX C (.cons e es) σ E S K := by
  simp only [exX_eq, exsX_eq, oeX_eq, ocX_eq, itX_eq, sxX_eq, sxsX_eq, binX_eq, cmpX_eq, idxX_eq, bltX_eq, slcX_eq, isiX_eq, rcvX_eq, mthX_eq, tgX_eq, taX_eq, tgsX_eq, forX_eq, lcX_eq, itvX_eq, itlX_eq, zipX_eq, augX_eq, subX_eq, callX_eq, newX_eq, slrX_eq, frX_eq, bkX_eq, bkE_eq, truX_eq, rgX_eq, rg2X_eq, rgdX_eq, rglX_eq, rgtX_eq] at *
  exact k
theorem oe_no {K : Option Int → Sto → Prop} (k : K none S) : oeX C .no σ E S K := by
  simp only [exX_eq, exsX_eq, oeX_eq, ocX_eq, itX_eq, sxX_eq, sxsX_eq, binX_eq, cmpX_eq, idxX_eq, bltX_eq, slcX_eq, isiX_eq, rcvX_eq, mthX_eq, tgX_eq, taX_eq, tgsX_eq, forX_eq, lcX_eq, itvX_eq, itlX_eq, zipX_eq, augX_eq, subX_eq, callX_eq, newX_eq, slrX_eq, frX_eq, bkX_eq, bkE_eq, truX_eq, rgX_eq, rg2X_eq, rgdX_eq, rglX_eq, rgtX_eq] at *
  exact k
theorem oe_yes {e} {K : Option Int → Sto → Prop} (k : exX C e σ E S fun x S1 => ∃ i, x = .int i ∧ K (some i) S1) : oeX C (.yes e) σ E S K := by
  simp only [exX_eq, exsX_eq, oeX_eq, ocX_eq, itX_eq, sxX_eq, sxsX_eq, binX_eq, cmpX_eq, idxX_eq, bltX_eq, slcX_eq, isiX_eq, rcvX_eq, mthX_eq, tgX_eq, taX_eq, tgsX_eq, forX_eq, lcX_eq, itvX_eq, itlX_eq, zipX_eq, augX_eq, subX_eq, callX_eq, newX_eq, slrX_eq, frX_eq, bkX_eq, bkE_eq, truX_eq, rgX_eq, rg2X_eq, rgdX_eq, rglX_eq, rgtX_eq] at *
  exact k
theorem oc_no {K : Bool → Sto → Prop} (k : K true S) : ocX C .no σ S K := by
  simp only [exX_eq, exsX_eq, oeX_eq, ocX_eq, itX_eq, sxX_eq, sxsX_eq, binX_eq, cmpX_eq, idxX_eq, bltX_eq, slcX_eq, isiX_eq, rcvX_eq, mthX_eq, tgX_eq, taX_eq, tgsX_eq, forX_eq, lcX_eq, itvX_eq, itlX_eq, zipX_eq, augX_eq, subX_eq, callX_eq, newX_eq, slrX_eq, frX_eq, bkX_eq, bkE_eq, truX_eq, rgX_eq, rg2X_eq, rgdX_eq, rglX_eq, rgtX_eq] at *
  exact k
theorem oc_yes {e} {K : Bool → Sto → Prop} (k : exX C e σ noX S fun x S1 => truX S1 x fun b => K b S1) : ocX C (.yes e) σ S K := by
  simp only [exX_eq, exsX_eq, oeX_eq, ocX_eq, itX_eq, sxX_eq, sxsX_eq, binX_eq, cmpX_eq, idxX_eq, bltX_eq, slcX_eq, isiX_eq, rcvX_eq, mthX_eq, tgX_eq, taX_eq, tgsX_eq, forX_eq, lcX_eq, itvX_eq, itlX_eq, zipX_eq, augX_eq, subX_eq, callX_eq, newX_eq, slrX_eq, frX_eq, bkX_eq, bkE_eq, truX_eq, rgX_eq, rg2X_eq, rgdX_eq, rglX_eq, rgtX_eq] at *
  exact k
theorem len_ok {l : List D} {P : Prop} (k : P) (h : l.length ≤ line) : l.length ≤ line ∧ P := ⟨h, k⟩
theorem eq_int {i : Int} {P : Int → Prop} (k : P i) : ∃ j, D.int i = .int j ∧ P j := ⟨i, rfl, k⟩
/-! new lists -/
theorem nl_ref {l : List D} (k : ∀ p, S p = none → K (.ref p) (put S p (.lst l))) : newX l S K := by
  simp only [exX_eq, exsX_eq, oeX_eq, ocX_eq, itX_eq, sxX_eq, sxsX_eq, binX_eq, cmpX_eq, idxX_eq, bltX_eq, slcX_eq, isiX_eq, rcvX_eq, mthX_eq, tgX_eq, taX_eq, tgsX_eq, forX_eq, lcX_eq, itvX_eq, itlX_eq, zipX_eq, augX_eq, subX_eq, callX_eq, newX_eq, slrX_eq, frX_eq, bkX_eq, bkE_eq, truX_eq, rgX_eq, rg2X_eq, rgdX_eq, rglX_eq, rgtX_eq] at *
  exact .inl k
theorem nl_fz {l : List D} (k : K (.fz l) S) : newX l S K := by
  simp only [exX_eq, exsX_eq, oeX_eq, ocX_eq, itX_eq, sxX_eq, sxsX_eq, binX_eq, cmpX_eq, idxX_eq, bltX_eq, slcX_eq, isiX_eq, rcvX_eq, mthX_eq, tgX_eq, taX_eq, tgsX_eq, forX_eq, lcX_eq, itvX_eq, itlX_eq, zipX_eq, augX_eq, subX_eq, callX_eq, newX_eq, slrX_eq, frX_eq, bkX_eq, bkE_eq, truX_eq, rgX_eq, rg2X_eq, rgdX_eq, rglX_eq, rgtX_eq] at *
  exact .inr k
/-! what goes back -/
theorem fr_no {x : D} (k : K x S) : frX K x S := by
  simp only [exX_eq, exsX_eq, oeX_eq, ocX_eq, itX_eq, sxX_eq, sxsX_eq, binX_eq, cmpX_eq, idxX_eq, bltX_eq, slcX_eq, isiX_eq, rcvX_eq, mthX_eq, tgX_eq, taX_eq, tgsX_eq, forX_eq, lcX_eq, itvX_eq, itlX_eq, zipX_eq, augX_eq, subX_eq, callX_eq, newX_eq, slrX_eq, frX_eq, bkX_eq, bkE_eq, truX_eq, rgX_eq, rg2X_eq, rgdX_eq, rglX_eq, rgtX_eq] at *
  exact ⟨[], x, List.nodup_nil, fun _ m => (nomatch m), .same x, by have e : less [] S = S := rfl; rw [e]; exact k⟩
theorem fr_int {i : Int} (k : K (.int i) S) : frX K (.int i) S := fr_no k
theorem fr_bl {i : Bool} (k : K (.bl i) S) : frX K (.bl i) S := fr_no k
theorem fr_str {i : Str} (k : K (.str i) S) : frX K (.str i) S := fr_no k
theorem fr_non (k : K .non S) : frX K .non S := fr_no k
theorem fr_tup {i : List D} (k : K (.tup i) S) : frX K (.tup i) S := fr_no k
theorem fr_fz {i : List D} (k : K (.fz i) S) : frX K (.fz i) S := fr_no k
theorem frs_same {A : List Nat} : ∀ l : List D, FzRs A S l l
  | [] => .nil
  | d :: l => .cons (.same d) (frs_same l)
theorem fr_ref {n : Nat} {l : List D} (h : S n = some (.lst l)) (k : K (.fz l) (less [n] S)) : frX K (.ref n) S := by
  simp only [exX_eq, exsX_eq, oeX_eq, ocX_eq, itX_eq, sxX_eq, sxsX_eq, binX_eq, cmpX_eq, idxX_eq, bltX_eq, slcX_eq, isiX_eq, rcvX_eq, mthX_eq, tgX_eq, taX_eq, tgsX_eq, forX_eq, lcX_eq, itvX_eq, itlX_eq, zipX_eq, augX_eq, subX_eq, callX_eq, newX_eq, slrX_eq, frX_eq, bkX_eq, bkE_eq, truX_eq, rgX_eq, rg2X_eq, rgdX_eq, rglX_eq, rgtX_eq] at *
  exact ⟨[n], .fz l, by simp, fun a m => by rw [List.mem_singleton] at m; subst m; exact ⟨l, h⟩, .ref (by simp) h (frs_same l), k⟩
/-! iterators -/
section
variable {K : List D → (Sto → Prop) → Sto → Prop}
theorem it_val {e} (k : exX C e σ E S fun x S1 => itvX x S1 fun l chk => K l chk S1) : itX C (.val e) σ E S K := by
  simp only [exX_eq, exsX_eq, oeX_eq, ocX_eq, itX_eq, sxX_eq, sxsX_eq, binX_eq, cmpX_eq, idxX_eq, bltX_eq, slcX_eq, isiX_eq, rcvX_eq, mthX_eq, tgX_eq, taX_eq, tgsX_eq, forX_eq, lcX_eq, itvX_eq, itlX_eq, zipX_eq, augX_eq, subX_eq, callX_eq, newX_eq, slrX_eq, frX_eq, bkX_eq, bkE_eq, truX_eq, rgX_eq, rg2X_eq, rgdX_eq, rglX_eq, rgtX_eq] at *
  exact k
theorem it_rg1 {a} (k : exX C a σ E S fun x S1 => rgX x fun l => K l (fun _ => True) S1) : itX C (.rg1 a) σ E S K := by
  simp only [exX_eq, exsX_eq, oeX_eq, ocX_eq, itX_eq, sxX_eq, sxsX_eq, binX_eq, cmpX_eq, idxX_eq, bltX_eq, slcX_eq, isiX_eq, rcvX_eq, mthX_eq, tgX_eq, taX_eq, tgsX_eq, forX_eq, lcX_eq, itvX_eq, itlX_eq, zipX_eq, augX_eq, subX_eq, callX_eq, newX_eq, slrX_eq, frX_eq, bkX_eq, bkE_eq, truX_eq, rgX_eq, rg2X_eq, rgdX_eq, rglX_eq, rgtX_eq] at *
  exact k
theorem it_rg2 {a b} (k : exX C a σ E S fun x S1 => exX C b σ E S1 fun y S2 => rg2X x y fun l => K l (fun _ => True) S2) : itX C (.rg2 a b) σ E S K := by
  simp only [exX_eq, exsX_eq, oeX_eq, ocX_eq, itX_eq, sxX_eq, sxsX_eq, binX_eq, cmpX_eq, idxX_eq, bltX_eq, slcX_eq, isiX_eq, rcvX_eq, mthX_eq, tgX_eq, taX_eq, tgsX_eq, forX_eq, lcX_eq, itvX_eq, itlX_eq, zipX_eq, augX_eq, subX_eq, callX_eq, newX_eq, slrX_eq, frX_eq, bkX_eq, bkE_eq, truX_eq, rgX_eq, rg2X_eq, rgdX_eq, rglX_eq, rgtX_eq] at *
  exact k
theorem it_rgd {a b} (k : exX C a σ E S fun x S1 => exX C b σ E S1 fun y S2 => rgdX x y fun l => K l (fun _ => True) S2) : itX C (.rgd a b) σ E S K := by
  simp only [exX_eq, exsX_eq, oeX_eq, ocX_eq, itX_eq, sxX_eq, sxsX_eq, binX_eq, cmpX_eq, idxX_eq, bltX_eq, slcX_eq, isiX_eq, rcvX_eq, mthX_eq, tgX_eq, taX_eq, tgsX_eq, forX_eq, lcX_eq, itvX_eq, itlX_eq, zipX_eq, augX_eq, subX_eq, callX_eq, newX_eq, slrX_eq, frX_eq, bkX_eq, bkE_eq, truX_eq, rgX_eq, rg2X_eq, rgdX_eq, rglX_eq, rgtX_eq] at *
  exact k
theorem it_enum {e} (k : exX C e σ E S fun x S1 => itvX x S1 fun l chk => K (l.zipIdx.map fun p => .tpu [.int p.2, p.1]) chk S1) : itX C (.enum e) σ E S K := by
  simp only [exX_eq, exsX_eq, oeX_eq, ocX_eq, itX_eq, sxX_eq, sxsX_eq, binX_eq, cmpX_eq, idxX_eq, bltX_eq, slcX_eq, isiX_eq, rcvX_eq, mthX_eq, tgX_eq, taX_eq, tgsX_eq, forX_eq, lcX_eq, itvX_eq, itlX_eq, zipX_eq, augX_eq, subX_eq, callX_eq, newX_eq, slrX_eq, frX_eq, bkX_eq, bkE_eq, truX_eq, rgX_eq, rg2X_eq, rgdX_eq, rglX_eq, rgtX_eq] at *
  exact k
theorem it_zip {a b} (k : exX C a σ E S fun x S1 => exX C b σ E S1 fun y S2 => zipX x y S2 fun l chk => K l chk S2) : itX C (.zip a b) σ E S K := by
  simp only [exX_eq, exsX_eq, oeX_eq, ocX_eq, itX_eq, sxX_eq, sxsX_eq, binX_eq, cmpX_eq, idxX_eq, bltX_eq, slcX_eq, isiX_eq, rcvX_eq, mthX_eq, tgX_eq, taX_eq, tgsX_eq, forX_eq, lcX_eq, itvX_eq, itlX_eq, zipX_eq, augX_eq, subX_eq, callX_eq, newX_eq, slrX_eq, frX_eq, bkX_eq, bkE_eq, truX_eq, rgX_eq, rg2X_eq, rgdX_eq, rglX_eq, rgtX_eq] at *
  exact k
theorem it_rev {e} (k : exX C e σ E S fun x S1 => itvX x S1 fun l chk => K l.reverse chk S1) : itX C (.rev e) σ E S K := by
  simp only [exX_eq, exsX_eq, oeX_eq, ocX_eq, itX_eq, sxX_eq, sxsX_eq, binX_eq, cmpX_eq, idxX_eq, bltX_eq, slcX_eq, isiX_eq, rcvX_eq, mthX_eq, tgX_eq, taX_eq, tgsX_eq, forX_eq, lcX_eq, itvX_eq, itlX_eq, zipX_eq, augX_eq, subX_eq, callX_eq, newX_eq, slrX_eq, frX_eq, bkX_eq, bkE_eq, truX_eq, rgX_eq, rg2X_eq, rgdX_eq, rglX_eq, rgtX_eq] at *
  exact k
end
theorem rg_n {n : Nat} {K : List D → Prop} (h : n < 2 ^ 62) (k : K ((List.range n).map fun (k : Nat) => .int k)) : rgX (.int n) K := by
  simp only [exX_eq, exsX_eq, oeX_eq, ocX_eq, itX_eq, sxX_eq, sxsX_eq, binX_eq, cmpX_eq, idxX_eq, bltX_eq, slcX_eq, isiX_eq, rcvX_eq, mthX_eq, tgX_eq, taX_eq, tgsX_eq, forX_eq, lcX_eq, itvX_eq, itlX_eq, zipX_eq, augX_eq, subX_eq, callX_eq, newX_eq, slrX_eq, frX_eq, bkX_eq, bkE_eq, truX_eq, rgX_eq, rg2X_eq, rgdX_eq, rglX_eq, rgtX_eq] at *
  exact ⟨n, rfl, ⟨by omega, by omega⟩, by rw [Int.toNat_natCast]; exact k⟩
theorem rg2_n {a b : Nat} {K : List D → Prop} (h : a < 2 ^ 62 ∧ b < 2 ^ 62) (k : K ((List.range (b - a)).map fun (k : Nat) => .int (a + k : Nat))) : rg2X (.int a) (.int b) K := by
  simp only [exX_eq, exsX_eq, oeX_eq, ocX_eq, itX_eq, sxX_eq, sxsX_eq, binX_eq, cmpX_eq, idxX_eq, bltX_eq, slcX_eq, isiX_eq, rcvX_eq, mthX_eq, tgX_eq, taX_eq, tgsX_eq, forX_eq, lcX_eq, itvX_eq, itlX_eq, zipX_eq, augX_eq, subX_eq, callX_eq, newX_eq, slrX_eq, frX_eq, bkX_eq, bkE_eq, truX_eq, rgX_eq, rg2X_eq, rgdX_eq, rglX_eq, rgtX_eq] at *
  refine ⟨a, b, rfl, rfl, ⟨by omega, by omega⟩, ⟨by omega, by omega⟩, ?_⟩
  have e : ((b : Int) - (a : Int)).toNat = b - a := by omega
  rw [e]
  exact k
theorem rgt_n {n : Nat} {K : DK} (h : n < 2 ^ 24) (k : K (.tup ((List.range n).map fun (k : Nat) => .int k)) S) : rgtX (.int n) S K := by
  simp only [exX_eq, exsX_eq, oeX_eq, ocX_eq, itX_eq, sxX_eq, sxsX_eq, binX_eq, cmpX_eq, idxX_eq, bltX_eq, slcX_eq, isiX_eq, rcvX_eq, mthX_eq, tgX_eq, taX_eq, tgsX_eq, forX_eq, lcX_eq, itvX_eq, itlX_eq, zipX_eq, augX_eq, subX_eq, callX_eq, newX_eq, slrX_eq, frX_eq, bkX_eq, bkE_eq, truX_eq, rgX_eq, rg2X_eq, rgdX_eq, rglX_eq, rgtX_eq] at *
  exact ⟨n, rfl, by omega, by omega, by rw [Int.toNat_natCast]; exact k⟩
theorem rgl_n {n : Nat} {K : DK} (h : n < 2 ^ 24) (k : newX ((List.range n).map fun (k : Nat) => .int k) S K) : rglX (.int n) S K := by
  simp only [exX_eq, exsX_eq, oeX_eq, ocX_eq, itX_eq, sxX_eq, sxsX_eq, binX_eq, cmpX_eq, idxX_eq, bltX_eq, slcX_eq, isiX_eq, rcvX_eq, mthX_eq, tgX_eq, taX_eq, tgsX_eq, forX_eq, lcX_eq, itvX_eq, itlX_eq, zipX_eq, augX_eq, subX_eq, callX_eq, newX_eq, slrX_eq, frX_eq, bkX_eq, bkE_eq, truX_eq, rgX_eq, rg2X_eq, rgdX_eq, rglX_eq, rgtX_eq] at *
  exact ⟨n, rfl, by omega, by omega, by rw [Int.toNat_natCast]; exact k⟩
theorem iv_fz {l : List D} {K : List D → (Sto → Prop) → Prop} (k : K l fun _ => True) : itvX (.fz l) S K := by
  simp only [exX_eq, exsX_eq, oeX_eq, ocX_eq, itX_eq, sxX_eq, sxsX_eq, binX_eq, cmpX_eq, idxX_eq, bltX_eq, slcX_eq, isiX_eq, rcvX_eq, mthX_eq, tgX_eq, taX_eq, tgsX_eq, forX_eq, lcX_eq, itvX_eq, itlX_eq, zipX_eq, augX_eq, subX_eq, callX_eq, newX_eq, slrX_eq, frX_eq, bkX_eq, bkE_eq, truX_eq, rgX_eq, rg2X_eq, rgdX_eq, rglX_eq, rgtX_eq] at *
  exact k
theorem iv_tup {l : List D} {K : List D → (Sto → Prop) → Prop} (k : K l fun _ => True) : itvX (.tup l) S K := by
  simp only [exX_eq, exsX_eq, oeX_eq, ocX_eq, itX_eq, sxX_eq, sxsX_eq, binX_eq, cmpX_eq, idxX_eq, bltX_eq, slcX_eq, isiX_eq, rcvX_eq, mthX_eq, tgX_eq, taX_eq, tgsX_eq, forX_eq, lcX_eq, itvX_eq, itlX_eq, zipX_eq, augX_eq, subX_eq, callX_eq, newX_eq, slrX_eq, frX_eq, bkX_eq, bkE_eq, truX_eq, rgX_eq, rg2X_eq, rgdX_eq, rglX_eq, rgtX_eq] at *
  exact k
theorem iv_lst {n : Nat} {l : List D} {K : List D → (Sto → Prop) → Prop} (hn : S n = some (.lst l)) (k : K l fun S' => S' n = some (.lst l)) : itvX (.ref n) S K := by
  simp only [exX_eq, exsX_eq, oeX_eq, ocX_eq, itX_eq, sxX_eq, sxsX_eq, binX_eq, cmpX_eq, idxX_eq, bltX_eq, slcX_eq, isiX_eq, rcvX_eq, mthX_eq, tgX_eq, taX_eq, tgsX_eq, forX_eq, lcX_eq, itvX_eq, itlX_eq, zipX_eq, augX_eq, subX_eq, callX_eq, newX_eq, slrX_eq, frX_eq, bkX_eq, bkE_eq, truX_eq, rgX_eq, rg2X_eq, rgdX_eq, rglX_eq, rgtX_eq] at *
  simpa only [itvW, hn] using k
theorem il_lst {n : Nat} {l : List D} {K : List D → (Sto → Prop) → Prop} (hn : S n = some (.lst l)) (k : K l fun S' => S' n = some (.lst l)) : itlX (.ref n) S K := by
  simp only [exX_eq, exsX_eq, oeX_eq, ocX_eq, itX_eq, sxX_eq, sxsX_eq, binX_eq, cmpX_eq, idxX_eq, bltX_eq, slcX_eq, isiX_eq, rcvX_eq, mthX_eq, tgX_eq, taX_eq, tgsX_eq, forX_eq, lcX_eq, itvX_eq, itlX_eq, zipX_eq, augX_eq, subX_eq, callX_eq, newX_eq, slrX_eq, frX_eq, bkX_eq, bkE_eq, truX_eq, rgX_eq, rg2X_eq, rgdX_eq, rglX_eq, rgtX_eq] at *
  simpa only [itlW, hn] using k
theorem il_fz {l : List D} {K : List D → (Sto → Prop) → Prop} (k : K l fun _ => True) : itlX (.fz l) S K := by
  simp only [exX_eq, exsX_eq, oeX_eq, ocX_eq, itX_eq, sxX_eq, sxsX_eq, binX_eq, cmpX_eq, idxX_eq, bltX_eq, slcX_eq, isiX_eq, rcvX_eq, mthX_eq, tgX_eq, taX_eq, tgsX_eq, forX_eq, lcX_eq, itvX_eq, itlX_eq, zipX_eq, augX_eq, subX_eq, callX_eq, newX_eq, slrX_eq, frX_eq, bkX_eq, bkE_eq, truX_eq, rgX_eq, rg2X_eq, rgdX_eq, rglX_eq, rgtX_eq] at *
  exact k
theorem iz_tup {l r : List D} {K : List D → (Sto → Prop) → Prop} (k : K (zip2 l r) fun _ => True) : zipX (.tup l) (.tup r) S K := by
  simp only [exX_eq, exsX_eq, oeX_eq, ocX_eq, itX_eq, sxX_eq, sxsX_eq, binX_eq, cmpX_eq, idxX_eq, bltX_eq, slcX_eq, isiX_eq, rcvX_eq, mthX_eq, tgX_eq, taX_eq, tgsX_eq, forX_eq, lcX_eq, itvX_eq, itlX_eq, zipX_eq, augX_eq, subX_eq, callX_eq, newX_eq, slrX_eq, frX_eq, bkX_eq, bkE_eq, truX_eq, rgX_eq, rg2X_eq, rgdX_eq, rglX_eq, rgtX_eq] at *
  exact k
theorem iz_fz {l r : List D} {K : List D → (Sto → Prop) → Prop} (k : K (zip2 l r) fun _ => True ∧ True) : zipX (.fz l) (.fz r) S K := by
  simp only [exX_eq, exsX_eq, oeX_eq, ocX_eq, itX_eq, sxX_eq, sxsX_eq, binX_eq, cmpX_eq, idxX_eq, bltX_eq, slcX_eq, isiX_eq, rcvX_eq, mthX_eq, tgX_eq, taX_eq, tgsX_eq, forX_eq, lcX_eq, itvX_eq, itlX_eq, zipX_eq, augX_eq, subX_eq, callX_eq, newX_eq, slrX_eq, frX_eq, bkX_eq, bkE_eq, truX_eq, rgX_eq, rg2X_eq, rgdX_eq, rglX_eq, rgtX_eq] at *
  exact k
/-! truth -/
theorem tr_bl {b : Bool} {P : Bool → Prop} (k : P b) : truX S (.bl b) P := by
  simp only [exX_eq, exsX_eq, oeX_eq, ocX_eq, itX_eq, sxX_eq, sxsX_eq, binX_eq, cmpX_eq, idxX_eq, bltX_eq, slcX_eq, isiX_eq, rcvX_eq, mthX_eq, tgX_eq, taX_eq, tgsX_eq, forX_eq, lcX_eq, itvX_eq, itlX_eq, zipX_eq, augX_eq, subX_eq, callX_eq, newX_eq, slrX_eq, frX_eq, bkX_eq, bkE_eq, truX_eq, rgX_eq, rg2X_eq, rgdX_eq, rglX_eq, rgtX_eq] at *
  exact ⟨b, rfl, k⟩
theorem tr_int {b : Int} {P : Bool → Prop} (k : P (b != 0)) : truX S (.int b) P := by
  simp only [exX_eq, exsX_eq, oeX_eq, ocX_eq, itX_eq, sxX_eq, sxsX_eq, binX_eq, cmpX_eq, idxX_eq, bltX_eq, slcX_eq, isiX_eq, rcvX_eq, mthX_eq, tgX_eq, taX_eq, tgsX_eq, forX_eq, lcX_eq, itvX_eq, itlX_eq, zipX_eq, augX_eq, subX_eq, callX_eq, newX_eq, slrX_eq, frX_eq, bkX_eq, bkE_eq, truX_eq, rgX_eq, rg2X_eq, rgdX_eq, rglX_eq, rgtX_eq] at *
  exact ⟨_, rfl, k⟩
theorem tr_nat {b : Nat} {P : Bool → Prop} (k : P (decide (b ≠ 0))) : truX S (.int b) P := tr_int (by
  have e : ((b : Int) != 0) = decide (b ≠ 0) := by rw [Bool.eq_iff_iff]; simp
  rw [e]; exact k)
theorem bit1 (a j : Nat) : (a >>> j) &&& 1 = if a.testBit j then 1 else 0 := by
  rw [Nat.and_one_is_mod, Nat.testBit_eq_decide_div_mod_eq, Nat.shiftRight_eq_div_pow]
  have := Nat.mod_two_eq_zero_or_one (a / 2 ^ j)
  rcases this with h | h <;> simp [h]
theorem tr_bit {a j : Nat} {P : Bool → Prop} (k : P (a.testBit j)) : truX S (.int ((a >>> j &&& 1 : Nat) : Int)) P := tr_nat (by
  rw [bit1]
  cases h : a.testBit j <;> rw [h] at k <;> simpa using k)
theorem tr_non {P : Bool → Prop} (k : P false) : truX S .non P := by
  simp only [exX_eq, exsX_eq, oeX_eq, ocX_eq, itX_eq, sxX_eq, sxsX_eq, binX_eq, cmpX_eq, idxX_eq, bltX_eq, slcX_eq, isiX_eq, rcvX_eq, mthX_eq, tgX_eq, taX_eq, tgsX_eq, forX_eq, lcX_eq, itvX_eq, itlX_eq, zipX_eq, augX_eq, subX_eq, callX_eq, newX_eq, slrX_eq, frX_eq, bkX_eq, bkE_eq, truX_eq, rgX_eq, rg2X_eq, rgdX_eq, rglX_eq, rgtX_eq] at *
  exact ⟨_, rfl, k⟩
theorem tr_tup {l : List D} {P : Bool → Prop} (k : P (!l.isEmpty)) : truX S (.tup l) P := by
  simp only [exX_eq, exsX_eq, oeX_eq, ocX_eq, itX_eq, sxX_eq, sxsX_eq, binX_eq, cmpX_eq, idxX_eq, bltX_eq, slcX_eq, isiX_eq, rcvX_eq, mthX_eq, tgX_eq, taX_eq, tgsX_eq, forX_eq, lcX_eq, itvX_eq, itlX_eq, zipX_eq, augX_eq, subX_eq, callX_eq, newX_eq, slrX_eq, frX_eq, bkX_eq, bkE_eq, truX_eq, rgX_eq, rg2X_eq, rgdX_eq, rglX_eq, rgtX_eq] at *
  exact ⟨_, rfl, k⟩
theorem tr_fz {l : List D} {P : Bool → Prop} (k : P (!l.isEmpty)) : truX S (.fz l) P := by
  simp only [exX_eq, exsX_eq, oeX_eq, ocX_eq, itX_eq, sxX_eq, sxsX_eq, binX_eq, cmpX_eq, idxX_eq, bltX_eq, slcX_eq, isiX_eq, rcvX_eq, mthX_eq, tgX_eq, taX_eq, tgsX_eq, forX_eq, lcX_eq, itvX_eq, itlX_eq, zipX_eq, augX_eq, subX_eq, callX_eq, newX_eq, slrX_eq, frX_eq, bkX_eq, bkE_eq, truX_eq, rgX_eq, rg2X_eq, rgdX_eq, rglX_eq, rgtX_eq] at *
  exact ⟨_, rfl, k⟩
theorem tr_lst {n : Nat} {l : List D} {P : Bool → Prop} (h : S n = some (.lst l)) (k : P (!l.isEmpty)) : truX S (.ref n) P := by
  simp only [exX_eq, exsX_eq, oeX_eq, ocX_eq, itX_eq, sxX_eq, sxsX_eq, binX_eq, cmpX_eq, idxX_eq, bltX_eq, slcX_eq, isiX_eq, rcvX_eq, mthX_eq, tgX_eq, taX_eq, tgsX_eq, forX_eq, lcX_eq, itvX_eq, itlX_eq, zipX_eq, augX_eq, subX_eq, callX_eq, newX_eq, slrX_eq, frX_eq, bkX_eq, bkE_eq, truX_eq, rgX_eq, rg2X_eq, rgdX_eq, rglX_eq, rgtX_eq] at *
  exact ⟨_, by simp only [truth?, h], k⟩
theorem if_both {b : Bool} {p q : Prop} (h1 : b = true → p) (h2 : b = false → q) : if b = true then p else q := by
  cases b with
  | true => exact h1 rfl
  | false => exact h2 rfl
theorem if_dec {c : Prop} [Decidable c] {p q : Prop} (h1 : c → p) (h2 : ¬c → q) : if decide c = true then p else q := by
  by_cases h : c
  · rw [if_pos (by simpa using h)]; exact h1 h
  · rw [if_neg (by simpa using h)]; exact h2 h
theorem if_ndec {c : Prop} [Decidable c] {p q : Prop} (h1 : ¬c → p) (h2 : c → q) : if (!decide c) = true then p else q := by
  by_cases h : c
  · rw [if_neg (by simpa using h)]; exact h2 h
  · rw [if_pos (by simpa using h)]; exact h1 h
theorem if_mono {c : Bool} {p q p' q' : Prop} (h : if c = true then p else q) (h1 : p → p') (h2 : q → q') : if c = true then p' else q' := by
  cases c with
  | true => exact h1 h
  | false => exact h2 h
theorem if_t {p q : Prop} (h : p) : if true = true then p else q := h
theorem if_f {p q : Prop} (h : q) : if false = true then p else q := h
theorem if_nt {p q : Prop} (h : q) : if (!true) = true then p else q := h
theorem if_nf {p q : Prop} (h : p) : if (!false) = true then p else q := h
theorem bool_dec (b : Bool) : b = decide (b = true) := by cases b <;> rfl
/-! operators -/
section
variable {i j : Int} {a b : Nat}
theorem b_add (k : K (.int (i + j)) S) : binX .add (.int i) (.int j) S K := by
  simp only [exX_eq, exsX_eq, oeX_eq, ocX_eq, itX_eq, sxX_eq, sxsX_eq, binX_eq, cmpX_eq, idxX_eq, bltX_eq, slcX_eq, isiX_eq, rcvX_eq, mthX_eq, tgX_eq, taX_eq, tgsX_eq, forX_eq, lcX_eq, itvX_eq, itlX_eq, zipX_eq, augX_eq, subX_eq, callX_eq, newX_eq, slrX_eq, frX_eq, bkX_eq, bkE_eq, truX_eq, rgX_eq, rg2X_eq, rgdX_eq, rglX_eq, rgtX_eq] at *
  exact k
theorem b_addN (k : K (.int ((a + b : Nat) : Int)) S) : binX .add (.int a) (.int b) S K := by
  simp only [exX_eq, exsX_eq, oeX_eq, ocX_eq, itX_eq, sxX_eq, sxsX_eq, binX_eq, cmpX_eq, idxX_eq, bltX_eq, slcX_eq, isiX_eq, rcvX_eq, mthX_eq, tgX_eq, taX_eq, tgsX_eq, forX_eq, lcX_eq, itvX_eq, itlX_eq, zipX_eq, augX_eq, subX_eq, callX_eq, newX_eq, slrX_eq, frX_eq, bkX_eq, bkE_eq, truX_eq, rgX_eq, rg2X_eq, rgdX_eq, rglX_eq, rgtX_eq] at *
  exact k
theorem b_addB {j : Bool} (k : K (.int (i + b2 j)) S) : binX .add (.int i) (.bl j) S K := by
  simp only [exX_eq, exsX_eq, oeX_eq, ocX_eq, itX_eq, sxX_eq, sxsX_eq, binX_eq, cmpX_eq, idxX_eq, bltX_eq, slcX_eq, isiX_eq, rcvX_eq, mthX_eq, tgX_eq, taX_eq, tgsX_eq, forX_eq, lcX_eq, itvX_eq, itlX_eq, zipX_eq, augX_eq, subX_eq, callX_eq, newX_eq, slrX_eq, frX_eq, bkX_eq, bkE_eq, truX_eq, rgX_eq, rg2X_eq, rgdX_eq, rglX_eq, rgtX_eq] at *
  exact k
theorem b_sub (k : K (.int (i - j)) S) : binX .sub (.int i) (.int j) S K := by
  simp only [exX_eq, exsX_eq, oeX_eq, ocX_eq, itX_eq, sxX_eq, sxsX_eq, binX_eq, cmpX_eq, idxX_eq, bltX_eq, slcX_eq, isiX_eq, rcvX_eq, mthX_eq, tgX_eq, taX_eq, tgsX_eq, forX_eq, lcX_eq, itvX_eq, itlX_eq, zipX_eq, augX_eq, subX_eq, callX_eq, newX_eq, slrX_eq, frX_eq, bkX_eq, bkE_eq, truX_eq, rgX_eq, rg2X_eq, rgdX_eq, rglX_eq, rgtX_eq] at *
  exact k
theorem b_subN (k : K (.int ((a - b : Nat) : Int)) S) (h : b ≤ a) : binX .sub (.int a) (.int b) S K := b_sub (by rw [← Int.ofNat_sub h]; exact k)
theorem b_mul (k : K (.int (i * j)) S) (h : mulOk i j) : binX .mul (.int i) (.int j) S K := by
  simp only [exX_eq, exsX_eq, oeX_eq, ocX_eq, itX_eq, sxX_eq, sxsX_eq, binX_eq, cmpX_eq, idxX_eq, bltX_eq, slcX_eq, isiX_eq, rcvX_eq, mthX_eq, tgX_eq, taX_eq, tgsX_eq, forX_eq, lcX_eq, itvX_eq, itlX_eq, zipX_eq, augX_eq, subX_eq, callX_eq, newX_eq, slrX_eq, frX_eq, bkX_eq, bkE_eq, truX_eq, rgX_eq, rg2X_eq, rgdX_eq, rglX_eq, rgtX_eq] at *
  exact ⟨h, k⟩
theorem b_mulT {l : List D} (h : -1000 ≤ j ∧ j ≤ 1000 ∧ l.length ≤ 1000) (k : K (.tup (List.replicate j.toNat l).flatten) S) : binX .mul (.tup l) (.int j) S K := by
  simp only [exX_eq, exsX_eq, oeX_eq, ocX_eq, itX_eq, sxX_eq, sxsX_eq, binX_eq, cmpX_eq, idxX_eq, bltX_eq, slcX_eq, isiX_eq, rcvX_eq, mthX_eq, tgX_eq, taX_eq, tgsX_eq, forX_eq, lcX_eq, itvX_eq, itlX_eq, zipX_eq, augX_eq, subX_eq, callX_eq, newX_eq, slrX_eq, frX_eq, bkX_eq, bkE_eq, truX_eq, rgX_eq, rg2X_eq, rgdX_eq, rglX_eq, rgtX_eq] at *
  exact ⟨h, k⟩
theorem b_mulN (k : K (.int ((a * b : Nat) : Int)) S) (h : mulOk a b) : binX .mul (.int a) (.int b) S K := by
  simp only [exX_eq, exsX_eq, oeX_eq, ocX_eq, itX_eq, sxX_eq, sxsX_eq, binX_eq, cmpX_eq, idxX_eq, bltX_eq, slcX_eq, isiX_eq, rcvX_eq, mthX_eq, tgX_eq, taX_eq, tgsX_eq, forX_eq, lcX_eq, itvX_eq, itlX_eq, zipX_eq, augX_eq, subX_eq, callX_eq, newX_eq, slrX_eq, frX_eq, bkX_eq, bkE_eq, truX_eq, rgX_eq, rg2X_eq, rgdX_eq, rglX_eq, rgtX_eq] at *
  exact ⟨h, k⟩
theorem b_div (k : K (.int (i / j)) S) (h : 0 < j ∧ j.natAbs.log2 < 9000) : binX .fdiv (.int i) (.int j) S K := by
  simp only [exX_eq, exsX_eq, oeX_eq, ocX_eq, itX_eq, sxX_eq, sxsX_eq, binX_eq, cmpX_eq, idxX_eq, bltX_eq, slcX_eq, isiX_eq, rcvX_eq, mthX_eq, tgX_eq, taX_eq, tgsX_eq, forX_eq, lcX_eq, itvX_eq, itlX_eq, zipX_eq, augX_eq, subX_eq, callX_eq, newX_eq, slrX_eq, frX_eq, bkX_eq, bkE_eq, truX_eq, rgX_eq, rg2X_eq, rgdX_eq, rglX_eq, rgtX_eq] at *
  exact ⟨h, k⟩
theorem b_mod (k : K (.int (i % j)) S) (h : 0 < j) : binX .mod (.int i) (.int j) S K := by
  simp only [exX_eq, exsX_eq, oeX_eq, ocX_eq, itX_eq, sxX_eq, sxsX_eq, binX_eq, cmpX_eq, idxX_eq, bltX_eq, slcX_eq, isiX_eq, rcvX_eq, mthX_eq, tgX_eq, taX_eq, tgsX_eq, forX_eq, lcX_eq, itvX_eq, itlX_eq, zipX_eq, augX_eq, subX_eq, callX_eq, newX_eq, slrX_eq, frX_eq, bkX_eq, bkE_eq, truX_eq, rgX_eq, rg2X_eq, rgdX_eq, rglX_eq, rgtX_eq] at *
  exact ⟨h, k⟩
theorem b_divN (k : K (.int ((a / b : Nat) : Int)) S) (h : 0 < b ∧ b < 2 ^ 9000) : binX .fdiv (.int a) (.int b) S K := b_div k ⟨by omega, by
  rw [Int.natAbs_natCast]
  exact (Nat.log2_lt (by omega)).2 h.2⟩
theorem lt9000 {b : Nat} (h : b < 2 ^ 64) : b < 2 ^ 9000 := Nat.lt_of_lt_of_le h (Nat.pow_le_pow_right (by decide) (by decide))
theorem b_divS (k : K (.int ((a / b : Nat) : Int)) S) (h : 0 < b ∧ b < 2 ^ 64) : binX .fdiv (.int a) (.int b) S K := b_divN k ⟨h.1, lt9000 h.2⟩
theorem b_modN (k : K (.int ((a % b : Nat) : Int)) S) (h : 0 < b) : binX .mod (.int a) (.int b) S K := b_mod k (by omega)
theorem b_pow (k : K (.int (i ^ j.toNat)) S) (h : 0 ≤ j ∧ j ≤ 1000000 ∧ i.natAbs < 2 ^ 64) : binX .pow (.int i) (.int j) S K := by
  simp only [exX_eq, exsX_eq, oeX_eq, ocX_eq, itX_eq, sxX_eq, sxsX_eq, binX_eq, cmpX_eq, idxX_eq, bltX_eq, slcX_eq, isiX_eq, rcvX_eq, mthX_eq, tgX_eq, taX_eq, tgsX_eq, forX_eq, lcX_eq, itvX_eq, itlX_eq, zipX_eq, augX_eq, subX_eq, callX_eq, newX_eq, slrX_eq, frX_eq, bkX_eq, bkE_eq, truX_eq, rgX_eq, rg2X_eq, rgdX_eq, rglX_eq, rgtX_eq] at *
  exact ⟨h, k⟩
theorem b_shl (k : K (.int (i * 2 ^ j.toNat)) S) (h : 0 ≤ j ∧ j ≤ 1000000 ∧ i.natAbs < 2 ^ 64) : binX .shl (.int i) (.int j) S K := by
  simp only [exX_eq, exsX_eq, oeX_eq, ocX_eq, itX_eq, sxX_eq, sxsX_eq, binX_eq, cmpX_eq, idxX_eq, bltX_eq, slcX_eq, isiX_eq, rcvX_eq, mthX_eq, tgX_eq, taX_eq, tgsX_eq, forX_eq, lcX_eq, itvX_eq, itlX_eq, zipX_eq, augX_eq, subX_eq, callX_eq, newX_eq, slrX_eq, frX_eq, bkX_eq, bkE_eq, truX_eq, rgX_eq, rg2X_eq, rgdX_eq, rglX_eq, rgtX_eq] at *
  exact ⟨h, k⟩
theorem b_shlN (k : K (.int ((a <<< b : Nat) : Int)) S) (h : b ≤ 1000000 ∧ a < 2 ^ 64) : binX .shl (.int a) (.int b) S K := b_shl (by
  rw [Nat.shiftLeft_eq] at k
  have e : ((a : Int) * 2 ^ (b : Int).toNat) = ((a * 2 ^ b : Nat) : Int) := by rw [Int.toNat_natCast, Int.natCast_mul, Int.natCast_pow]; rfl
  rw [e]; exact k) ⟨by omega, by omega, by rw [Int.natAbs_natCast]; exact h.2⟩
theorem b_shr (k : K (.int (i / 2 ^ j.toNat)) S) (h : 0 ≤ j) : binX .shr (.int i) (.int j) S K := by
  simp only [exX_eq, exsX_eq, oeX_eq, ocX_eq, itX_eq, sxX_eq, sxsX_eq, binX_eq, cmpX_eq, idxX_eq, bltX_eq, slcX_eq, isiX_eq, rcvX_eq, mthX_eq, tgX_eq, taX_eq, tgsX_eq, forX_eq, lcX_eq, itvX_eq, itlX_eq, zipX_eq, augX_eq, subX_eq, callX_eq, newX_eq, slrX_eq, frX_eq, bkX_eq, bkE_eq, truX_eq, rgX_eq, rg2X_eq, rgdX_eq, rglX_eq, rgtX_eq] at *
  exact ⟨h, k⟩
theorem b_shrN (k : K (.int ((a >>> b : Nat) : Int)) S) : binX .shr (.int a) (.int b) S K := b_shr (by
  rw [Nat.shiftRight_eq_div_pow] at k
  have e : ((a : Int) / 2 ^ (b : Int).toNat) = ((a / 2 ^ b : Nat) : Int) := by rw [Int.toNat_natCast, Int.natCast_ediv, Int.natCast_pow]; rfl
  rw [e]; exact k) (by omega)
theorem b_and (k : K (.int (band i j)) S) : binX .and (.int i) (.int j) S K := by
  simp only [exX_eq, exsX_eq, oeX_eq, ocX_eq, itX_eq, sxX_eq, sxsX_eq, binX_eq, cmpX_eq, idxX_eq, bltX_eq, slcX_eq, isiX_eq, rcvX_eq, mthX_eq, tgX_eq, taX_eq, tgsX_eq, forX_eq, lcX_eq, itvX_eq, itlX_eq, zipX_eq, augX_eq, subX_eq, callX_eq, newX_eq, slrX_eq, frX_eq, bkX_eq, bkE_eq, truX_eq, rgX_eq, rg2X_eq, rgdX_eq, rglX_eq, rgtX_eq] at *
  exact k
theorem b_andN (k : K (.int ((a &&& b : Nat) : Int)) S) : binX .and (.int a) (.int b) S K := b_and (by rw [band_nat]; exact k)
theorem b_dif (k : K (.int ((dif a b : Nat) : Int)) S) : binX .and (.int a) (.int (bnot b)) S K := b_and (by rw [band_bnot]; exact k)
theorem b_or (k : K (.int (bor i j)) S) : binX .or (.int i) (.int j) S K := by
  simp only [exX_eq, exsX_eq, oeX_eq, ocX_eq, itX_eq, sxX_eq, sxsX_eq, binX_eq, cmpX_eq, idxX_eq, bltX_eq, slcX_eq, isiX_eq, rcvX_eq, mthX_eq, tgX_eq, taX_eq, tgsX_eq, forX_eq, lcX_eq, itvX_eq, itlX_eq, zipX_eq, augX_eq, subX_eq, callX_eq, newX_eq, slrX_eq, frX_eq, bkX_eq, bkE_eq, truX_eq, rgX_eq, rg2X_eq, rgdX_eq, rglX_eq, rgtX_eq] at *
  exact k
theorem b_orN (k : K (.int ((a ||| b : Nat) : Int)) S) : binX .or (.int a) (.int b) S K := b_or (by rw [bor_nat]; exact k)
theorem b_xor (k : K (.int (bxor i j)) S) : binX .xor (.int i) (.int j) S K := by
  simp only [exX_eq, exsX_eq, oeX_eq, ocX_eq, itX_eq, sxX_eq, sxsX_eq, binX_eq, cmpX_eq, idxX_eq, bltX_eq, slcX_eq, isiX_eq, rcvX_eq, mthX_eq, tgX_eq, taX_eq, tgsX_eq, forX_eq, lcX_eq, itvX_eq, itlX_eq, zipX_eq, augX_eq, subX_eq, callX_eq, newX_eq, slrX_eq, frX_eq, bkX_eq, bkE_eq, truX_eq, rgX_eq, rg2X_eq, rgdX_eq, rglX_eq, rgtX_eq] at *
  exact k
theorem b_addT {l m : List D} (k : K (.tup (l ++ m)) S) (h : l.length + m.length ≤ line) : binX .add (.tup l) (.tup m) S K := by
  simp only [exX_eq, exsX_eq, oeX_eq, ocX_eq, itX_eq, sxX_eq, sxsX_eq, binX_eq, cmpX_eq, idxX_eq, bltX_eq, slcX_eq, isiX_eq, rcvX_eq, mthX_eq, tgX_eq, taX_eq, tgsX_eq, forX_eq, lcX_eq, itvX_eq, itlX_eq, zipX_eq, augX_eq, subX_eq, callX_eq, newX_eq, slrX_eq, frX_eq, bkX_eq, bkE_eq, truX_eq, rgX_eq, rg2X_eq, rgdX_eq, rglX_eq, rgtX_eq] at *
  exact ⟨h, k⟩
theorem b_addF {l m : List D} (k : newX (l ++ m) S K) (h : l.length + m.length ≤ line) : binX .add (.fz l) (.fz m) S K := by
  simp only [exX_eq, exsX_eq, oeX_eq, ocX_eq, itX_eq, sxX_eq, sxsX_eq, binX_eq, cmpX_eq, idxX_eq, bltX_eq, slcX_eq, isiX_eq, rcvX_eq, mthX_eq, tgX_eq, taX_eq, tgsX_eq, forX_eq, lcX_eq, itvX_eq, itlX_eq, zipX_eq, augX_eq, subX_eq, callX_eq, newX_eq, slrX_eq, frX_eq, bkX_eq, bkE_eq, truX_eq, rgX_eq, rg2X_eq, rgdX_eq, rglX_eq, rgtX_eq] at *
  exact ⟨l, m, rfl, rfl, h, k⟩
theorem b_addL {l m : List D} {x y : D} (h1 : lst? S x = some l) (h2 : lst? S y = some m) (k : newX (l ++ m) S K) (h : l.length + m.length ≤ line) : binX .add x y S K := by
  simp only [exX_eq, exsX_eq, oeX_eq, ocX_eq, itX_eq, sxX_eq, sxsX_eq, binX_eq, cmpX_eq, idxX_eq, bltX_eq, slcX_eq, isiX_eq, rcvX_eq, mthX_eq, tgX_eq, taX_eq, tgsX_eq, forX_eq, lcX_eq, itvX_eq, itlX_eq, zipX_eq, augX_eq, subX_eq, callX_eq, newX_eq, slrX_eq, frX_eq, bkX_eq, bkE_eq, truX_eq, rgX_eq, rg2X_eq, rgdX_eq, rglX_eq, rgtX_eq] at *
  cases x <;> first | (cases h1; done) | (cases y <;> first | (cases h2; done) | exact ⟨l, m, h1, h2, h, k⟩)
theorem b_mulL {l : List D} {a : Nat} (h1 : S a = some (.lst l)) (h2 : j < 2 ^ 62 ∧ -(2 ^ 62) < j) (h : l.length * j.toNat ≤ line) (k : newX (List.replicate j.toNat l).flatten S K) : binX .mul (.ref a) (.int j) S K := by
  simp only [exX_eq, exsX_eq, oeX_eq, ocX_eq, itX_eq, sxX_eq, sxsX_eq, binX_eq, cmpX_eq, idxX_eq, bltX_eq, slcX_eq, isiX_eq, rcvX_eq, mthX_eq, tgX_eq, taX_eq, tgsX_eq, forX_eq, lcX_eq, itvX_eq, itlX_eq, zipX_eq, augX_eq, subX_eq, callX_eq, newX_eq, slrX_eq, frX_eq, bkX_eq, bkE_eq, truX_eq, rgX_eq, rg2X_eq, rgdX_eq, rglX_eq, rgtX_eq] at *
  exact ⟨l, h1, h2.1, h2.2, h, k⟩
theorem a_int {op : Bop} (k : binX op (.int i) (.int j) S K) (h : op ≠ .pow) : augX op (.int i) (.int j) S K := by
  simp only [exX_eq, exsX_eq, oeX_eq, ocX_eq, itX_eq, sxX_eq, sxsX_eq, binX_eq, cmpX_eq, idxX_eq, bltX_eq, slcX_eq, isiX_eq, rcvX_eq, mthX_eq, tgX_eq, taX_eq, tgsX_eq, forX_eq, lcX_eq, itvX_eq, itlX_eq, zipX_eq, augX_eq, subX_eq, callX_eq, newX_eq, slrX_eq, frX_eq, bkX_eq, bkE_eq, truX_eq, rgX_eq, rg2X_eq, rgdX_eq, rglX_eq, rgtX_eq] at *
  exact ⟨h, k⟩
theorem a_lst {l m : List D} {a b : Nat} (h1 : S a = some (.lst l)) (h2 : S b = some (.lst m)) (h : l.length + m.length ≤ line) (k : K (.ref a) (put S a (.lst (l ++ m)))) : augX .add (.ref a) (.ref b) S K := by
  simp only [exX_eq, exsX_eq, oeX_eq, ocX_eq, itX_eq, sxX_eq, sxsX_eq, binX_eq, cmpX_eq, idxX_eq, bltX_eq, slcX_eq, isiX_eq, rcvX_eq, mthX_eq, tgX_eq, taX_eq, tgsX_eq, forX_eq, lcX_eq, itvX_eq, itlX_eq, zipX_eq, augX_eq, subX_eq, callX_eq, newX_eq, slrX_eq, frX_eq, bkX_eq, bkE_eq, truX_eq, rgX_eq, rg2X_eq, rgdX_eq, rglX_eq, rgtX_eq] at *
  exact ⟨rfl, l, m, h1, h2, h, k⟩
end
section
variable {K : Bool → Prop} {i j : Int} {a b : Nat}
theorem c_lt (k : K (decide (i < j))) : cmpX .lt (.int i) (.int j) S K := by
  simp only [exX_eq, exsX_eq, oeX_eq, ocX_eq, itX_eq, sxX_eq, sxsX_eq, binX_eq, cmpX_eq, idxX_eq, bltX_eq, slcX_eq, isiX_eq, rcvX_eq, mthX_eq, tgX_eq, taX_eq, tgsX_eq, forX_eq, lcX_eq, itvX_eq, itlX_eq, zipX_eq, augX_eq, subX_eq, callX_eq, newX_eq, slrX_eq, frX_eq, bkX_eq, bkE_eq, truX_eq, rgX_eq, rg2X_eq, rgdX_eq, rglX_eq, rgtX_eq] at *
  exact k
theorem c_le (k : K (decide (i ≤ j))) : cmpX .le (.int i) (.int j) S K := by
  simp only [exX_eq, exsX_eq, oeX_eq, ocX_eq, itX_eq, sxX_eq, sxsX_eq, binX_eq, cmpX_eq, idxX_eq, bltX_eq, slcX_eq, isiX_eq, rcvX_eq, mthX_eq, tgX_eq, taX_eq, tgsX_eq, forX_eq, lcX_eq, itvX_eq, itlX_eq, zipX_eq, augX_eq, subX_eq, callX_eq, newX_eq, slrX_eq, frX_eq, bkX_eq, bkE_eq, truX_eq, rgX_eq, rg2X_eq, rgdX_eq, rglX_eq, rgtX_eq] at *
  exact k
theorem c_gt (k : K (decide (j < i))) : cmpX .gt (.int i) (.int j) S K := by
  simp only [exX_eq, exsX_eq, oeX_eq, ocX_eq, itX_eq, sxX_eq, sxsX_eq, binX_eq, cmpX_eq, idxX_eq, bltX_eq, slcX_eq, isiX_eq, rcvX_eq, mthX_eq, tgX_eq, taX_eq, tgsX_eq, forX_eq, lcX_eq, itvX_eq, itlX_eq, zipX_eq, augX_eq, subX_eq, callX_eq, newX_eq, slrX_eq, frX_eq, bkX_eq, bkE_eq, truX_eq, rgX_eq, rg2X_eq, rgdX_eq, rglX_eq, rgtX_eq] at *
  exact k
theorem c_ge (k : K (decide (j ≤ i))) : cmpX .ge (.int i) (.int j) S K := by
  simp only [exX_eq, exsX_eq, oeX_eq, ocX_eq, itX_eq, sxX_eq, sxsX_eq, binX_eq, cmpX_eq, idxX_eq, bltX_eq, slcX_eq, isiX_eq, rcvX_eq, mthX_eq, tgX_eq, taX_eq, tgsX_eq, forX_eq, lcX_eq, itvX_eq, itlX_eq, zipX_eq, augX_eq, subX_eq, callX_eq, newX_eq, slrX_eq, frX_eq, bkX_eq, bkE_eq, truX_eq, rgX_eq, rg2X_eq, rgdX_eq, rglX_eq, rgtX_eq] at *
  exact k
theorem c_eqi (k : K (i == j)) : cmpX .eq (.int i) (.int j) S K := by
  simp only [exX_eq, exsX_eq, oeX_eq, ocX_eq, itX_eq, sxX_eq, sxsX_eq, binX_eq, cmpX_eq, idxX_eq, bltX_eq, slcX_eq, isiX_eq, rcvX_eq, mthX_eq, tgX_eq, taX_eq, tgsX_eq, forX_eq, lcX_eq, itvX_eq, itlX_eq, zipX_eq, augX_eq, subX_eq, callX_eq, newX_eq, slrX_eq, frX_eq, bkX_eq, bkE_eq, truX_eq, rgX_eq, rg2X_eq, rgdX_eq, rglX_eq, rgtX_eq] at *
  exact ⟨.int i, .int j, rfl, rfl, rfl, k⟩
theorem c_nei (k : K (!(i == j))) : cmpX .ne (.int i) (.int j) S K := by
  simp only [exX_eq, exsX_eq, oeX_eq, ocX_eq, itX_eq, sxX_eq, sxsX_eq, binX_eq, cmpX_eq, idxX_eq, bltX_eq, slcX_eq, isiX_eq, rcvX_eq, mthX_eq, tgX_eq, taX_eq, tgsX_eq, forX_eq, lcX_eq, itvX_eq, itlX_eq, zipX_eq, augX_eq, subX_eq, callX_eq, newX_eq, slrX_eq, frX_eq, bkX_eq, bkE_eq, truX_eq, rgX_eq, rg2X_eq, rgdX_eq, rglX_eq, rgtX_eq] at *
  exact ⟨.int i, .int j, rfl, rfl, rfl, k⟩
theorem c_ltN (k : K (decide (a < b))) : cmpX .lt (.int a) (.int b) S K := c_lt (by rw [show decide ((a : Int) < b) = decide (a < b) from decide_eq_decide.2 (by omega)]; exact k)
theorem c_leN (k : K (decide (a ≤ b))) : cmpX .le (.int a) (.int b) S K := c_le (by rw [show decide ((a : Int) ≤ b) = decide (a ≤ b) from decide_eq_decide.2 (by omega)]; exact k)
theorem c_gtN (k : K (decide (b < a))) : cmpX .gt (.int a) (.int b) S K := c_gt (by rw [show decide ((b : Int) < a) = decide (b < a) from decide_eq_decide.2 (by omega)]; exact k)
theorem c_geN (k : K (decide (b ≤ a))) : cmpX .ge (.int a) (.int b) S K := c_ge (by rw [show decide ((b : Int) ≤ a) = decide (b ≤ a) from decide_eq_decide.2 (by omega)]; exact k)
theorem eqI (a b : Int) : (a == b) = decide (a = b) := by rw [Bool.eq_iff_iff]; simp
theorem c_eqN (k : K (decide (a = b))) : cmpX .eq (.int a) (.int b) S K := c_eqi (by rw [eqI, show decide ((a : Int) = b) = decide (a = b) from decide_eq_decide.2 (by omega)]; exact k)
theorem c_neN (k : K (!decide (a = b))) : cmpX .ne (.int a) (.int b) S K := c_nei (by rw [eqI, show decide ((a : Int) = b) = decide (a = b) from decide_eq_decide.2 (by omega)]; exact k)
theorem c_eqI (k : K (decide (i = j))) : cmpX .eq (.int i) (.int j) S K := c_eqi (by rw [eqI]; exact k)
theorem c_neI (k : K (!decide (i = j))) : cmpX .ne (.int i) (.int j) S K := c_nei (by rw [eqI]; exact k)
theorem c_eqb {i j : Bool} (k : K (i == j)) : cmpX .eq (.bl i) (.bl j) S K := by
  simp only [exX_eq, exsX_eq, oeX_eq, ocX_eq, itX_eq, sxX_eq, sxsX_eq, binX_eq, cmpX_eq, idxX_eq, bltX_eq, slcX_eq, isiX_eq, rcvX_eq, mthX_eq, tgX_eq, taX_eq, tgsX_eq, forX_eq, lcX_eq, itvX_eq, itlX_eq, zipX_eq, augX_eq, subX_eq, callX_eq, newX_eq, slrX_eq, frX_eq, bkX_eq, bkE_eq, truX_eq, rgX_eq, rg2X_eq, rgdX_eq, rglX_eq, rgtX_eq] at *
  exact ⟨.bl i, .bl j, rfl, rfl, rfl, k⟩
theorem c_neb {i j : Bool} (k : K (!(i == j))) : cmpX .ne (.bl i) (.bl j) S K := by
  simp only [exX_eq, exsX_eq, oeX_eq, ocX_eq, itX_eq, sxX_eq, sxsX_eq, binX_eq, cmpX_eq, idxX_eq, bltX_eq, slcX_eq, isiX_eq, rcvX_eq, mthX_eq, tgX_eq, taX_eq, tgsX_eq, forX_eq, lcX_eq, itvX_eq, itlX_eq, zipX_eq, augX_eq, subX_eq, callX_eq, newX_eq, slrX_eq, frX_eq, bkX_eq, bkE_eq, truX_eq, rgX_eq, rg2X_eq, rgdX_eq, rglX_eq, rgtX_eq] at *
  exact ⟨.bl i, .bl j, rfl, rfl, rfl, k⟩
theorem c_isN (k : K true) : cmpX .is .non .non S K := by
  simp only [exX_eq, exsX_eq, oeX_eq, ocX_eq, itX_eq, sxX_eq, sxsX_eq, binX_eq, cmpX_eq, idxX_eq, bltX_eq, slcX_eq, isiX_eq, rcvX_eq, mthX_eq, tgX_eq, taX_eq, tgsX_eq, forX_eq, lcX_eq, itvX_eq, itlX_eq, zipX_eq, augX_eq, subX_eq, callX_eq, newX_eq, slrX_eq, frX_eq, bkX_eq, bkE_eq, truX_eq, rgX_eq, rg2X_eq, rgdX_eq, rglX_eq, rgtX_eq] at *
  exact ⟨rfl, k⟩
theorem c_isn {x : D} (h : x ≠ .non) (k : K false) : cmpX .is x .non S K := by
  simp only [exX_eq, exsX_eq, oeX_eq, ocX_eq, itX_eq, sxX_eq, sxsX_eq, binX_eq, cmpX_eq, idxX_eq, bltX_eq, slcX_eq, isiX_eq, rcvX_eq, mthX_eq, tgX_eq, taX_eq, tgsX_eq, forX_eq, lcX_eq, itvX_eq, itlX_eq, zipX_eq, augX_eq, subX_eq, callX_eq, newX_eq, slrX_eq, frX_eq, bkX_eq, bkE_eq, truX_eq, rgX_eq, rg2X_eq, rgdX_eq, rglX_eq, rgtX_eq] at *
  refine ⟨rfl, ?_⟩
  cases x <;> first | exact absurd rfl h | exact k
theorem c_isnN (k : K false) : cmpX .isnot .non .non S K := by
  simp only [exX_eq, exsX_eq, oeX_eq, ocX_eq, itX_eq, sxX_eq, sxsX_eq, binX_eq, cmpX_eq, idxX_eq, bltX_eq, slcX_eq, isiX_eq, rcvX_eq, mthX_eq, tgX_eq, taX_eq, tgsX_eq, forX_eq, lcX_eq, itvX_eq, itlX_eq, zipX_eq, augX_eq, subX_eq, callX_eq, newX_eq, slrX_eq, frX_eq, bkX_eq, bkE_eq, truX_eq, rgX_eq, rg2X_eq, rgdX_eq, rglX_eq, rgtX_eq] at *
  exact ⟨rfl, k⟩
theorem c_isnn {x : D} (h : x ≠ .non) (k : K true) : cmpX .isnot x .non S K := by
  simp only [exX_eq, exsX_eq, oeX_eq, ocX_eq, itX_eq, sxX_eq, sxsX_eq, binX_eq, cmpX_eq, idxX_eq, bltX_eq, slcX_eq, isiX_eq, rcvX_eq, mthX_eq, tgX_eq, taX_eq, tgsX_eq, forX_eq, lcX_eq, itvX_eq, itlX_eq, zipX_eq, augX_eq, subX_eq, callX_eq, newX_eq, slrX_eq, frX_eq, bkX_eq, bkE_eq, truX_eq, rgX_eq, rg2X_eq, rgdX_eq, rglX_eq, rgtX_eq] at *
  refine ⟨rfl, ?_⟩
  cases x <;> first | exact absurd rfl h | exact k
theorem c_eqD {x y : D} {c : Bool} (hx : flat? S x = some x) (hy : flat? S y = some y) (f1 : finT x = true) (f2 : finT y = true) (h : eqT x y = c) (k : K c) : cmpX .eq x y S K := by
  simp only [exX_eq, exsX_eq, oeX_eq, ocX_eq, itX_eq, sxX_eq, sxsX_eq, binX_eq, cmpX_eq, idxX_eq, bltX_eq, slcX_eq, isiX_eq, rcvX_eq, mthX_eq, tgX_eq, taX_eq, tgsX_eq, forX_eq, lcX_eq, itvX_eq, itlX_eq, zipX_eq, augX_eq, subX_eq, callX_eq, newX_eq, slrX_eq, frX_eq, bkX_eq, bkE_eq, truX_eq, rgX_eq, rg2X_eq, rgdX_eq, rglX_eq, rgtX_eq] at *
  exact ⟨x, y, hx, hy, by rw [f1, f2]; rfl, by rw [h]; exact k⟩
theorem c_neD {x y : D} {c : Bool} (hx : flat? S x = some x) (hy : flat? S y = some y) (f1 : finT x = true) (f2 : finT y = true) (h : eqT x y = c) (k : K (!c)) : cmpX .ne x y S K := by
  simp only [exX_eq, exsX_eq, oeX_eq, ocX_eq, itX_eq, sxX_eq, sxsX_eq, binX_eq, cmpX_eq, idxX_eq, bltX_eq, slcX_eq, isiX_eq, rcvX_eq, mthX_eq, tgX_eq, taX_eq, tgsX_eq, forX_eq, lcX_eq, itvX_eq, itlX_eq, zipX_eq, augX_eq, subX_eq, callX_eq, newX_eq, slrX_eq, frX_eq, bkX_eq, bkE_eq, truX_eq, rgX_eq, rg2X_eq, rgdX_eq, rglX_eq, rgtX_eq] at *
  exact ⟨x, y, hx, hy, by rw [f1, f2]; rfl, by rw [h]; exact k⟩
theorem c_eqS2 {a b : Str} (c : Bool) (h : (strok a && (strok b && (decide (a = b) == c))) = true) (k : K c) : cmpX .eq (.str a) (.str b) S K := by
  simp only [Bool.and_eq_true, beq_iff_eq] at h
  exact c_eqD rfl rfl h.1 h.2.1 h.2.2 k
theorem c_neS2 {a b : Str} (c : Bool) (h : (strok a && (strok b && (decide (a = b) == c))) = true) (k : K (!c)) : cmpX .ne (.str a) (.str b) S K := by
  simp only [Bool.and_eq_true, beq_iff_eq] at h
  exact c_neD rfl rfl h.1 h.2.1 h.2.2 k
theorem c_eqL0 {n : Nat} {l : List D} (hn : S n = some (.lst l)) (f : l.all (fin 12) = true) (k : K l.isEmpty) : cmpX .eq (.ref n) (.fz []) S K := by
  simp only [exX_eq, exsX_eq, oeX_eq, ocX_eq, itX_eq, sxX_eq, sxsX_eq, binX_eq, cmpX_eq, idxX_eq, bltX_eq, slcX_eq, isiX_eq, rcvX_eq, mthX_eq, tgX_eq, taX_eq, tgsX_eq, forX_eq, lcX_eq, itvX_eq, itlX_eq, zipX_eq, augX_eq, subX_eq, callX_eq, newX_eq, slrX_eq, frX_eq, bkX_eq, bkE_eq, truX_eq, rgX_eq, rg2X_eq, rgdX_eq, rglX_eq, rgtX_eq] at *
  refine ⟨.fz l, .fz [], by simp only [flat?, hn], rfl, ?_, ?_⟩
  · show (l.all (fin 12) && true) = true
    rw [f]; rfl
  · have e : eqT (.fz l) (.fz []) = l.isEmpty := by cases l <;> rfl
    rw [e]; exact k
theorem c_neL0 {n : Nat} {l : List D} (hn : S n = some (.lst l)) (f : l.all (fin 12) = true) (k : K (!l.isEmpty)) : cmpX .ne (.ref n) (.fz []) S K := by
  simp only [exX_eq, exsX_eq, oeX_eq, ocX_eq, itX_eq, sxX_eq, sxsX_eq, binX_eq, cmpX_eq, idxX_eq, bltX_eq, slcX_eq, isiX_eq, rcvX_eq, mthX_eq, tgX_eq, taX_eq, tgsX_eq, forX_eq, lcX_eq, itvX_eq, itlX_eq, zipX_eq, augX_eq, subX_eq, callX_eq, newX_eq, slrX_eq, frX_eq, bkX_eq, bkE_eq, truX_eq, rgX_eq, rg2X_eq, rgdX_eq, rglX_eq, rgtX_eq] at *
  refine ⟨.fz l, .fz [], by simp only [flat?, hn], rfl, ?_, ?_⟩
  · show (l.all (fin 12) && true) = true
    rw [f]; rfl
  · have e : eqT (.fz l) (.fz []) = l.isEmpty := by cases l <;> rfl
    rw [e]; exact k
theorem c_inT {x : D} {l : List D} {c : Bool} (f1 : fin 12 x = true) (f2 : l.all (fin 12) = true) (h : (l.any fun y => eqF 12 y x) = c) (k : K c) : cmpX .inn x (.tup l) S K := by
  simp only [exX_eq, exsX_eq, oeX_eq, ocX_eq, itX_eq, sxX_eq, sxsX_eq, binX_eq, cmpX_eq, idxX_eq, bltX_eq, slcX_eq, isiX_eq, rcvX_eq, mthX_eq, tgX_eq, taX_eq, tgsX_eq, forX_eq, lcX_eq, itvX_eq, itlX_eq, zipX_eq, augX_eq, subX_eq, callX_eq, newX_eq, slrX_eq, frX_eq, bkX_eq, bkE_eq, truX_eq, rgX_eq, rg2X_eq, rgdX_eq, rglX_eq, rgtX_eq] at *
  exact ⟨by rw [f1, f2]; rfl, by rw [h]; exact k⟩
theorem c_inF {x : D} {l : List D} {c : Bool} (f1 : fin 12 x = true) (f2 : l.all (fin 12) = true) (h : (l.any fun y => eqF 12 y x) = c) (k : K c) : cmpX .inn x (.fz l) S K := by
  simp only [exX_eq, exsX_eq, oeX_eq, ocX_eq, itX_eq, sxX_eq, sxsX_eq, binX_eq, cmpX_eq, idxX_eq, bltX_eq, slcX_eq, isiX_eq, rcvX_eq, mthX_eq, tgX_eq, taX_eq, tgsX_eq, forX_eq, lcX_eq, itvX_eq, itlX_eq, zipX_eq, augX_eq, subX_eq, callX_eq, newX_eq, slrX_eq, frX_eq, bkX_eq, bkE_eq, truX_eq, rgX_eq, rg2X_eq, rgdX_eq, rglX_eq, rgtX_eq] at *
  exact ⟨by rw [f1, f2]; rfl, by rw [h]; exact k⟩
theorem c_inL {x : D} {n : Nat} {l : List D} {c : Bool} (hn : S n = some (.lst l)) (f1 : fin 12 x = true) (f2 : l.all (fin 12) = true) (h : (l.any fun y => eqF 12 y x) = c) (k : K c) : cmpX .inn x (.ref n) S K := by
  simp only [exX_eq, exsX_eq, oeX_eq, ocX_eq, itX_eq, sxX_eq, sxsX_eq, binX_eq, cmpX_eq, idxX_eq, bltX_eq, slcX_eq, isiX_eq, rcvX_eq, mthX_eq, tgX_eq, taX_eq, tgsX_eq, forX_eq, lcX_eq, itvX_eq, itlX_eq, zipX_eq, augX_eq, subX_eq, callX_eq, newX_eq, slrX_eq, frX_eq, bkX_eq, bkE_eq, truX_eq, rgX_eq, rg2X_eq, rgdX_eq, rglX_eq, rgtX_eq] at *
  simp only [cmpW, inW, hn]
  exact ⟨by rw [f1, f2]; rfl, by rw [h]; exact k⟩
theorem c_niT {x : D} {l : List D} {c : Bool} (f1 : fin 12 x = true) (f2 : l.all (fin 12) = true) (h : (l.any fun y => eqF 12 y x) = c) (k : K (!c)) : cmpX .notin x (.tup l) S K := by
  simp only [exX_eq, exsX_eq, oeX_eq, ocX_eq, itX_eq, sxX_eq, sxsX_eq, binX_eq, cmpX_eq, idxX_eq, bltX_eq, slcX_eq, isiX_eq, rcvX_eq, mthX_eq, tgX_eq, taX_eq, tgsX_eq, forX_eq, lcX_eq, itvX_eq, itlX_eq, zipX_eq, augX_eq, subX_eq, callX_eq, newX_eq, slrX_eq, frX_eq, bkX_eq, bkE_eq, truX_eq, rgX_eq, rg2X_eq, rgdX_eq, rglX_eq, rgtX_eq] at *
  exact ⟨by rw [f1, f2]; rfl, by rw [h]; exact k⟩
theorem c_niF {x : D} {l : List D} {c : Bool} (f1 : fin 12 x = true) (f2 : l.all (fin 12) = true) (h : (l.any fun y => eqF 12 y x) = c) (k : K (!c)) : cmpX .notin x (.fz l) S K := by
  simp only [exX_eq, exsX_eq, oeX_eq, ocX_eq, itX_eq, sxX_eq, sxsX_eq, binX_eq, cmpX_eq, idxX_eq, bltX_eq, slcX_eq, isiX_eq, rcvX_eq, mthX_eq, tgX_eq, taX_eq, tgsX_eq, forX_eq, lcX_eq, itvX_eq, itlX_eq, zipX_eq, augX_eq, subX_eq, callX_eq, newX_eq, slrX_eq, frX_eq, bkX_eq, bkE_eq, truX_eq, rgX_eq, rg2X_eq, rgdX_eq, rglX_eq, rgtX_eq] at *
  exact ⟨by rw [f1, f2]; rfl, by rw [h]; exact k⟩
theorem c_niL {x : D} {n : Nat} {l : List D} {c : Bool} (hn : S n = some (.lst l)) (f1 : fin 12 x = true) (f2 : l.all (fin 12) = true) (h : (l.any fun y => eqF 12 y x) = c) (k : K (!c)) : cmpX .notin x (.ref n) S K := by
  simp only [exX_eq, exsX_eq, oeX_eq, ocX_eq, itX_eq, sxX_eq, sxsX_eq, binX_eq, cmpX_eq, idxX_eq, bltX_eq, slcX_eq, isiX_eq, rcvX_eq, mthX_eq, tgX_eq, taX_eq, tgsX_eq, forX_eq, lcX_eq, itvX_eq, itlX_eq, zipX_eq, augX_eq, subX_eq, callX_eq, newX_eq, slrX_eq, frX_eq, bkX_eq, bkE_eq, truX_eq, rgX_eq, rg2X_eq, rgdX_eq, rglX_eq, rgtX_eq] at *
  simp only [cmpW, inW, hn]
  exact ⟨by rw [f1, f2]; rfl, by rw [h]; exact k⟩
theorem c_inD {x : D} {n : Nat} {l : List (D × D)} {c : Bool} (hn : S n = some (.dic l)) (f1 : isKey x = true) (h : hask l x = c) (k : K c) : cmpX .inn x (.ref n) S K := by
  simp only [exX_eq, exsX_eq, oeX_eq, ocX_eq, itX_eq, sxX_eq, sxsX_eq, binX_eq, cmpX_eq, idxX_eq, bltX_eq, slcX_eq, isiX_eq, rcvX_eq, mthX_eq, tgX_eq, taX_eq, tgsX_eq, forX_eq, lcX_eq, itvX_eq, itlX_eq, zipX_eq, augX_eq, subX_eq, callX_eq, newX_eq, slrX_eq, frX_eq, bkX_eq, bkE_eq, truX_eq, rgX_eq, rg2X_eq, rgdX_eq, rglX_eq, rgtX_eq] at *
  simp only [cmpW, inW, hn]
  exact .inl ⟨f1, by rw [h]; exact k⟩
theorem c_niD {x : D} {n : Nat} {l : List (D × D)} {c : Bool} (hn : S n = some (.dic l)) (f1 : isKey x = true) (h : hask l x = c) (k : K (!c)) : cmpX .notin x (.ref n) S K := by
  simp only [exX_eq, exsX_eq, oeX_eq, ocX_eq, itX_eq, sxX_eq, sxsX_eq, binX_eq, cmpX_eq, idxX_eq, bltX_eq, slcX_eq, isiX_eq, rcvX_eq, mthX_eq, tgX_eq, taX_eq, tgsX_eq, forX_eq, lcX_eq, itvX_eq, itlX_eq, zipX_eq, augX_eq, subX_eq, callX_eq, newX_eq, slrX_eq, frX_eq, bkX_eq, bkE_eq, truX_eq, rgX_eq, rg2X_eq, rgdX_eq, rglX_eq, rgtX_eq] at *
  simp only [cmpW, inW, hn]
  exact .inl ⟨f1, by rw [h]; exact k⟩
end
/-! subscripts, builtins, methods, stores, targets -/
theorem ix_tup {l : List D} {i : Int} {d : D} {K : D → Prop} (h : nth l i = some d) (k : K d) : idxX (.tup l) (.int i) S K := by
  simp only [exX_eq, exsX_eq, oeX_eq, ocX_eq, itX_eq, sxX_eq, sxsX_eq, binX_eq, cmpX_eq, idxX_eq, bltX_eq, slcX_eq, isiX_eq, rcvX_eq, mthX_eq, tgX_eq, taX_eq, tgsX_eq, forX_eq, lcX_eq, itvX_eq, itlX_eq, zipX_eq, augX_eq, subX_eq, callX_eq, newX_eq, slrX_eq, frX_eq, bkX_eq, bkE_eq, truX_eq, rgX_eq, rg2X_eq, rgdX_eq, rglX_eq, rgtX_eq] at *
  exact ⟨d, h, k⟩
theorem ix_fz {l : List D} {i : Int} {d : D} {K : D → Prop} (h : nth l i = some d) (k : K d) : idxX (.fz l) (.int i) S K := by
  simp only [exX_eq, exsX_eq, oeX_eq, ocX_eq, itX_eq, sxX_eq, sxsX_eq, binX_eq, cmpX_eq, idxX_eq, bltX_eq, slcX_eq, isiX_eq, rcvX_eq, mthX_eq, tgX_eq, taX_eq, tgsX_eq, forX_eq, lcX_eq, itvX_eq, itlX_eq, zipX_eq, augX_eq, subX_eq, callX_eq, newX_eq, slrX_eq, frX_eq, bkX_eq, bkE_eq, truX_eq, rgX_eq, rg2X_eq, rgdX_eq, rglX_eq, rgtX_eq] at *
  exact ⟨d, h, k⟩
theorem ix_lst {n : Nat} {l : List D} {i : Int} {d : D} {K : D → Prop} (hn : S n = some (.lst l)) (h : nth l i = some d) (k : K d) : idxX (.ref n) (.int i) S K := by
  simp only [exX_eq, exsX_eq, oeX_eq, ocX_eq, itX_eq, sxX_eq, sxsX_eq, binX_eq, cmpX_eq, idxX_eq, bltX_eq, slcX_eq, isiX_eq, rcvX_eq, mthX_eq, tgX_eq, taX_eq, tgsX_eq, forX_eq, lcX_eq, itvX_eq, itlX_eq, zipX_eq, augX_eq, subX_eq, callX_eq, newX_eq, slrX_eq, frX_eq, bkX_eq, bkE_eq, truX_eq, rgX_eq, rg2X_eq, rgdX_eq, rglX_eq, rgtX_eq] at *
  simp only [idxW, hn]
  exact ⟨d, h, k⟩
theorem nth_nat {α : Type} {l : List α} {j : Nat} : nth l (j : Int) = l[j]? := by
  unfold nth ixn
  rw [if_pos (by omega)]
  by_cases h : (j : Int) < Int.ofNat l.length
  · rw [if_pos h]
    rfl
  · rw [if_neg h, List.getElem?_eq_none (by have : ¬ ((j : Int) < (l.length : Int)) := h; omega)]
    rfl
theorem ix_tupN {l : List D} {j : Nat} {d : D} {K : D → Prop} (h : l[j]? = some d) (k : K d) : idxX (.tup l) (.int j) S K := ix_tup (by rw [nth_nat]; exact h) k
theorem ix_fzN {l : List D} {j : Nat} {d : D} {K : D → Prop} (h : l[j]? = some d) (k : K d) : idxX (.fz l) (.int j) S K := ix_fz (by rw [nth_nat]; exact h) k
theorem ix_lstN {n : Nat} {l : List D} {j : Nat} {d : D} {K : D → Prop} (hn : S n = some (.lst l)) (h : l[j]? = some d) (k : K d) : idxX (.ref n) (.int j) S K := ix_lst hn (by rw [nth_nat]; exact h) k
theorem ix_dic {n : Nat} {l : List (D × D)} {x d : D} {K : D → Prop} (hn : S n = some (.dic l)) (hx : isKey x = true) (h : getk l x = some d) (k : K d) : idxX (.ref n) x S K := by
  simp only [exX_eq, exsX_eq, oeX_eq, ocX_eq, itX_eq, sxX_eq, sxsX_eq, binX_eq, cmpX_eq, idxX_eq, bltX_eq, slcX_eq, isiX_eq, rcvX_eq, mthX_eq, tgX_eq, taX_eq, tgsX_eq, forX_eq, lcX_eq, itvX_eq, itlX_eq, zipX_eq, augX_eq, subX_eq, callX_eq, newX_eq, slrX_eq, frX_eq, bkX_eq, bkE_eq, truX_eq, rgX_eq, rg2X_eq, rgdX_eq, rglX_eq, rgtX_eq] at *
  cases x <;> first | (cases hx; done) | (simp only [idxW, hn]; exact ⟨rfl, d, h, k⟩)
theorem su_lst {n : Nat} {l : List D} {i : Int} {j : Nat} {v : D} {K : Sto → Prop} (hn : S n = some (.lst l)) (h : ixn l.length i = some j) (k : K (put S n (.lst (l.set j v)))) : subX (.ref n) (.int i) v S K := by
  simp only [exX_eq, exsX_eq, oeX_eq, ocX_eq, itX_eq, sxX_eq, sxsX_eq, binX_eq, cmpX_eq, idxX_eq, bltX_eq, slcX_eq, isiX_eq, rcvX_eq, mthX_eq, tgX_eq, taX_eq, tgsX_eq, forX_eq, lcX_eq, itvX_eq, itlX_eq, zipX_eq, augX_eq, subX_eq, callX_eq, newX_eq, slrX_eq, frX_eq, bkX_eq, bkE_eq, truX_eq, rgX_eq, rg2X_eq, rgdX_eq, rglX_eq, rgtX_eq] at *
  simp only [subW, hn]
  exact ⟨j, h, k⟩
theorem su_lstN {n : Nat} {l : List D} {j : Nat} {v : D} {K : Sto → Prop} (hn : S n = some (.lst l)) (h : j < l.length) (k : K (put S n (.lst (l.set j v)))) : subX (.ref n) (.int j) v S K := su_lst hn (by
  unfold ixn
  rw [if_pos (by omega), if_pos (by show (j : Int) < (l.length : Int); omega)]
  rfl) k
theorem sl_lst {n : Nat} {l : List D} {lo hi : Option Int} (hn : S n = some (.lst l)) (k : newX (cut l lo hi) S K) : slcX (.ref n) lo hi S K := by
  simp only [exX_eq, exsX_eq, oeX_eq, ocX_eq, itX_eq, sxX_eq, sxsX_eq, binX_eq, cmpX_eq, idxX_eq, bltX_eq, slcX_eq, isiX_eq, rcvX_eq, mthX_eq, tgX_eq, taX_eq, tgsX_eq, forX_eq, lcX_eq, itvX_eq, itlX_eq, zipX_eq, augX_eq, subX_eq, callX_eq, newX_eq, slrX_eq, frX_eq, bkX_eq, bkE_eq, truX_eq, rgX_eq, rg2X_eq, rgdX_eq, rglX_eq, rgtX_eq] at *
  simpa only [slcW, hn] using k
theorem sl_fz {l : List D} {lo hi : Option Int} (k : newX (cut l lo hi) S K) : slcX (.fz l) lo hi S K := by
  simp only [exX_eq, exsX_eq, oeX_eq, ocX_eq, itX_eq, sxX_eq, sxsX_eq, binX_eq, cmpX_eq, idxX_eq, bltX_eq, slcX_eq, isiX_eq, rcvX_eq, mthX_eq, tgX_eq, taX_eq, tgsX_eq, forX_eq, lcX_eq, itvX_eq, itlX_eq, zipX_eq, augX_eq, subX_eq, callX_eq, newX_eq, slrX_eq, frX_eq, bkX_eq, bkE_eq, truX_eq, rgX_eq, rg2X_eq, rgdX_eq, rglX_eq, rgtX_eq] at *
  exact k
theorem sl_tup {l : List D} {lo hi : Option Int} (k : K (.tup (cut l lo hi)) S) : slcX (.tup l) lo hi S K := by
  simp only [exX_eq, exsX_eq, oeX_eq, ocX_eq, itX_eq, sxX_eq, sxsX_eq, binX_eq, cmpX_eq, idxX_eq, bltX_eq, slcX_eq, isiX_eq, rcvX_eq, mthX_eq, tgX_eq, taX_eq, tgsX_eq, forX_eq, lcX_eq, itvX_eq, itlX_eq, zipX_eq, augX_eq, subX_eq, callX_eq, newX_eq, slrX_eq, frX_eq, bkX_eq, bkE_eq, truX_eq, rgX_eq, rg2X_eq, rgdX_eq, rglX_eq, rgtX_eq] at *
  exact k
theorem su_dic {n : Nat} {kv : List (D × D)} {i v : D} {K : Sto → Prop} (hn : S n = some (.dic kv)) (hi : isKey i = true) (hz : kv.length < line) (k : K (put S n (.dic (putk kv i v)))) : subX (.ref n) i v S K := by
  simp only [exX_eq, exsX_eq, oeX_eq, ocX_eq, itX_eq, sxX_eq, sxsX_eq, binX_eq, cmpX_eq, idxX_eq, bltX_eq, slcX_eq, isiX_eq, rcvX_eq, mthX_eq, tgX_eq, taX_eq, tgsX_eq, forX_eq, lcX_eq, itvX_eq, itlX_eq, zipX_eq, augX_eq, subX_eq, callX_eq, newX_eq, slrX_eq, frX_eq, bkX_eq, bkE_eq, truX_eq, rgX_eq, rg2X_eq, rgdX_eq, rglX_eq, rgtX_eq] at *
  simp only [subW, hn]
  cases i <;> first | exact .inl ⟨hi, hz, k⟩ | cases hi
theorem bl_lenT {l : List D} (k : K (.int l.length) S) : bltX .len [.tup l] S K := by
  simp only [exX_eq, exsX_eq, oeX_eq, ocX_eq, itX_eq, sxX_eq, sxsX_eq, binX_eq, cmpX_eq, idxX_eq, bltX_eq, slcX_eq, isiX_eq, rcvX_eq, mthX_eq, tgX_eq, taX_eq, tgsX_eq, forX_eq, lcX_eq, itvX_eq, itlX_eq, zipX_eq, augX_eq, subX_eq, callX_eq, newX_eq, slrX_eq, frX_eq, bkX_eq, bkE_eq, truX_eq, rgX_eq, rg2X_eq, rgdX_eq, rglX_eq, rgtX_eq] at *
  exact k
theorem bl_lenF {l : List D} (k : K (.int l.length) S) : bltX .len [.fz l] S K := by
  simp only [exX_eq, exsX_eq, oeX_eq, ocX_eq, itX_eq, sxX_eq, sxsX_eq, binX_eq, cmpX_eq, idxX_eq, bltX_eq, slcX_eq, isiX_eq, rcvX_eq, mthX_eq, tgX_eq, taX_eq, tgsX_eq, forX_eq, lcX_eq, itvX_eq, itlX_eq, zipX_eq, augX_eq, subX_eq, callX_eq, newX_eq, slrX_eq, frX_eq, bkX_eq, bkE_eq, truX_eq, rgX_eq, rg2X_eq, rgdX_eq, rglX_eq, rgtX_eq] at *
  exact k
theorem bl_lenL {n : Nat} {l : List D} (hn : S n = some (.lst l)) (k : K (.int l.length) S) : bltX .len [.ref n] S K := by
  simp only [exX_eq, exsX_eq, oeX_eq, ocX_eq, itX_eq, sxX_eq, sxsX_eq, binX_eq, cmpX_eq, idxX_eq, bltX_eq, slcX_eq, isiX_eq, rcvX_eq, mthX_eq, tgX_eq, taX_eq, tgsX_eq, forX_eq, lcX_eq, itvX_eq, itlX_eq, zipX_eq, augX_eq, subX_eq, callX_eq, newX_eq, slrX_eq, frX_eq, bkX_eq, bkE_eq, truX_eq, rgX_eq, rg2X_eq, rgdX_eq, rglX_eq, rgtX_eq] at *
  simpa only [bltW, hn] using k
theorem bl_lenD {n : Nat} {l : List (D × D)} (hn : S n = some (.dic l)) (k : K (.int l.length) S) : bltX .len [.ref n] S K := by
  simp only [exX_eq, exsX_eq, oeX_eq, ocX_eq, itX_eq, sxX_eq, sxsX_eq, binX_eq, cmpX_eq, idxX_eq, bltX_eq, slcX_eq, isiX_eq, rcvX_eq, mthX_eq, tgX_eq, taX_eq, tgsX_eq, forX_eq, lcX_eq, itvX_eq, itlX_eq, zipX_eq, augX_eq, subX_eq, callX_eq, newX_eq, slrX_eq, frX_eq, bkX_eq, bkE_eq, truX_eq, rgX_eq, rg2X_eq, rgdX_eq, rglX_eq, rgtX_eq] at *
  simpa only [bltW, hn] using k
theorem bl_lenS {s : Str} (h : s.length ≤ line) (k : K (.int s.length) S) : bltX .len [.str s] S K := by
  simp only [exX_eq, exsX_eq, oeX_eq, ocX_eq, itX_eq, sxX_eq, sxsX_eq, binX_eq, cmpX_eq, idxX_eq, bltX_eq, slcX_eq, isiX_eq, rcvX_eq, mthX_eq, tgX_eq, taX_eq, tgsX_eq, forX_eq, lcX_eq, itvX_eq, itlX_eq, zipX_eq, augX_eq, subX_eq, callX_eq, newX_eq, slrX_eq, frX_eq, bkX_eq, bkE_eq, truX_eq, rgX_eq, rg2X_eq, rgdX_eq, rglX_eq, rgtX_eq] at *
  exact ⟨h, k⟩
theorem bl_abs {i : Int} (k : K (.int i.natAbs) S) : bltX .abs [.int i] S K := by
  simp only [exX_eq, exsX_eq, oeX_eq, ocX_eq, itX_eq, sxX_eq, sxsX_eq, binX_eq, cmpX_eq, idxX_eq, bltX_eq, slcX_eq, isiX_eq, rcvX_eq, mthX_eq, tgX_eq, taX_eq, tgsX_eq, forX_eq, lcX_eq, itvX_eq, itlX_eq, zipX_eq, augX_eq, subX_eq, callX_eq, newX_eq, slrX_eq, frX_eq, bkX_eq, bkE_eq, truX_eq, rgX_eq, rg2X_eq, rgdX_eq, rglX_eq, rgtX_eq] at *
  show K (.int (if i < 0 then -i else i)) S
  rw [show (if i < 0 then -i else i) = (i.natAbs : Int) by split <;> omega]
  exact k
theorem bl_int {i : Int} (k : K (.int i) S) : bltX .int [.int i] S K := by
  simp only [exX_eq, exsX_eq, oeX_eq, ocX_eq, itX_eq, sxX_eq, sxsX_eq, binX_eq, cmpX_eq, idxX_eq, bltX_eq, slcX_eq, isiX_eq, rcvX_eq, mthX_eq, tgX_eq, taX_eq, tgsX_eq, forX_eq, lcX_eq, itvX_eq, itlX_eq, zipX_eq, augX_eq, subX_eq, callX_eq, newX_eq, slrX_eq, frX_eq, bkX_eq, bkE_eq, truX_eq, rgX_eq, rg2X_eq, rgdX_eq, rglX_eq, rgtX_eq] at *
  exact k
theorem bl_intB {i : Bool} (k : K (.int (b2 i)) S) : bltX .int [.bl i] S K := by
  simp only [exX_eq, exsX_eq, oeX_eq, ocX_eq, itX_eq, sxX_eq, sxsX_eq, binX_eq, cmpX_eq, idxX_eq, bltX_eq, slcX_eq, isiX_eq, rcvX_eq, mthX_eq, tgX_eq, taX_eq, tgsX_eq, forX_eq, lcX_eq, itvX_eq, itlX_eq, zipX_eq, augX_eq, subX_eq, callX_eq, newX_eq, slrX_eq, frX_eq, bkX_eq, bkE_eq, truX_eq, rgX_eq, rg2X_eq, rgdX_eq, rglX_eq, rgtX_eq] at *
  exact k
theorem bl_bool {i : Int} (k : K (.bl (i != 0)) S) : bltX .bool [.int i] S K := by
  simp only [exX_eq, exsX_eq, oeX_eq, ocX_eq, itX_eq, sxX_eq, sxsX_eq, binX_eq, cmpX_eq, idxX_eq, bltX_eq, slcX_eq, isiX_eq, rcvX_eq, mthX_eq, tgX_eq, taX_eq, tgsX_eq, forX_eq, lcX_eq, itvX_eq, itlX_eq, zipX_eq, augX_eq, subX_eq, callX_eq, newX_eq, slrX_eq, frX_eq, bkX_eq, bkE_eq, truX_eq, rgX_eq, rg2X_eq, rgdX_eq, rglX_eq, rgtX_eq] at *
  exact k
theorem bl_boolB {i : Bool} (k : K (.bl i) S) : bltX .bool [.bl i] S K := by
  simp only [exX_eq, exsX_eq, oeX_eq, ocX_eq, itX_eq, sxX_eq, sxsX_eq, binX_eq, cmpX_eq, idxX_eq, bltX_eq, slcX_eq, isiX_eq, rcvX_eq, mthX_eq, tgX_eq, taX_eq, tgsX_eq, forX_eq, lcX_eq, itvX_eq, itlX_eq, zipX_eq, augX_eq, subX_eq, callX_eq, newX_eq, slrX_eq, frX_eq, bkX_eq, bkE_eq, truX_eq, rgX_eq, rg2X_eq, rgdX_eq, rglX_eq, rgtX_eq] at *
  exact k
theorem bl_min {a b : Nat} (k : K (.int (min a b : Nat)) S) : bltX .min2 [.int a, .int b] S K := by
  simp only [exX_eq, exsX_eq, oeX_eq, ocX_eq, itX_eq, sxX_eq, sxsX_eq, binX_eq, cmpX_eq, idxX_eq, bltX_eq, slcX_eq, isiX_eq, rcvX_eq, mthX_eq, tgX_eq, taX_eq, tgsX_eq, forX_eq, lcX_eq, itvX_eq, itlX_eq, zipX_eq, augX_eq, subX_eq, callX_eq, newX_eq, slrX_eq, frX_eq, bkX_eq, bkE_eq, truX_eq, rgX_eq, rg2X_eq, rgdX_eq, rglX_eq, rgtX_eq] at *
  show K (.int (if (b : Int) < a then b else a)) S
  rw [show (if (b : Int) < a then (b : Int) else a) = ((min a b : Nat) : Int) by split <;> omega]
  exact k
theorem bl_max {a b : Nat} (k : K (.int (max a b : Nat)) S) : bltX .max2 [.int a, .int b] S K := by
  simp only [exX_eq, exsX_eq, oeX_eq, ocX_eq, itX_eq, sxX_eq, sxsX_eq, binX_eq, cmpX_eq, idxX_eq, bltX_eq, slcX_eq, isiX_eq, rcvX_eq, mthX_eq, tgX_eq, taX_eq, tgsX_eq, forX_eq, lcX_eq, itvX_eq, itlX_eq, zipX_eq, augX_eq, subX_eq, callX_eq, newX_eq, slrX_eq, frX_eq, bkX_eq, bkE_eq, truX_eq, rgX_eq, rg2X_eq, rgdX_eq, rglX_eq, rgtX_eq] at *
  show K (.int (if (b : Int) > a then b else a)) S
  rw [show (if (b : Int) > a then (b : Int) else a) = ((max a b : Nat) : Int) by split <;> omega]
  exact k
theorem bl_tupL {n : Nat} {l : List D} (hn : S n = some (.lst l)) (k : K (.tup l) S) : bltX .tuple [.ref n] S K := by
  simp only [exX_eq, exsX_eq, oeX_eq, ocX_eq, itX_eq, sxX_eq, sxsX_eq, binX_eq, cmpX_eq, idxX_eq, bltX_eq, slcX_eq, isiX_eq, rcvX_eq, mthX_eq, tgX_eq, taX_eq, tgsX_eq, forX_eq, lcX_eq, itvX_eq, itlX_eq, zipX_eq, augX_eq, subX_eq, callX_eq, newX_eq, slrX_eq, frX_eq, bkX_eq, bkE_eq, truX_eq, rgX_eq, rg2X_eq, rgdX_eq, rglX_eq, rgtX_eq] at *
  simpa only [bltW, hn] using k
theorem bl_tupT {l : List D} (k : K (.tup l) S) : bltX .tuple [.tup l] S K := by
  simp only [exX_eq, exsX_eq, oeX_eq, ocX_eq, itX_eq, sxX_eq, sxsX_eq, binX_eq, cmpX_eq, idxX_eq, bltX_eq, slcX_eq, isiX_eq, rcvX_eq, mthX_eq, tgX_eq, taX_eq, tgsX_eq, forX_eq, lcX_eq, itvX_eq, itlX_eq, zipX_eq, augX_eq, subX_eq, callX_eq, newX_eq, slrX_eq, frX_eq, bkX_eq, bkE_eq, truX_eq, rgX_eq, rg2X_eq, rgdX_eq, rglX_eq, rgtX_eq] at *
  exact k
theorem bl_tupF {l : List D} (k : K (.tup l) S) : bltX .tuple [.fz l] S K := by
  simp only [exX_eq, exsX_eq, oeX_eq, ocX_eq, itX_eq, sxX_eq, sxsX_eq, binX_eq, cmpX_eq, idxX_eq, bltX_eq, slcX_eq, isiX_eq, rcvX_eq, mthX_eq, tgX_eq, taX_eq, tgsX_eq, forX_eq, lcX_eq, itvX_eq, itlX_eq, zipX_eq, augX_eq, subX_eq, callX_eq, newX_eq, slrX_eq, frX_eq, bkX_eq, bkE_eq, truX_eq, rgX_eq, rg2X_eq, rgdX_eq, rglX_eq, rgtX_eq] at *
  exact k
theorem bl_lstT {l : List D} (k : newX l S K) : bltX .list [.tup l] S K := by
  simp only [exX_eq, exsX_eq, oeX_eq, ocX_eq, itX_eq, sxX_eq, sxsX_eq, binX_eq, cmpX_eq, idxX_eq, bltX_eq, slcX_eq, isiX_eq, rcvX_eq, mthX_eq, tgX_eq, taX_eq, tgsX_eq, forX_eq, lcX_eq, itvX_eq, itlX_eq, zipX_eq, augX_eq, subX_eq, callX_eq, newX_eq, slrX_eq, frX_eq, bkX_eq, bkE_eq, truX_eq, rgX_eq, rg2X_eq, rgdX_eq, rglX_eq, rgtX_eq] at *
  exact k
theorem bl_lstF {l : List D} (k : newX l S K) : bltX .list [.fz l] S K := by
  simp only [exX_eq, exsX_eq, oeX_eq, ocX_eq, itX_eq, sxX_eq, sxsX_eq, binX_eq, cmpX_eq, idxX_eq, bltX_eq, slcX_eq, isiX_eq, rcvX_eq, mthX_eq, tgX_eq, taX_eq, tgsX_eq, forX_eq, lcX_eq, itvX_eq, itlX_eq, zipX_eq, augX_eq, subX_eq, callX_eq, newX_eq, slrX_eq, frX_eq, bkX_eq, bkE_eq, truX_eq, rgX_eq, rg2X_eq, rgdX_eq, rglX_eq, rgtX_eq] at *
  exact k
theorem bl_lstL {n : Nat} {l : List D} (hn : S n = some (.lst l)) (k : newX l S K) : bltX .list [.ref n] S K := by
  simp only [exX_eq, exsX_eq, oeX_eq, ocX_eq, itX_eq, sxX_eq, sxsX_eq, binX_eq, cmpX_eq, idxX_eq, bltX_eq, slcX_eq, isiX_eq, rcvX_eq, mthX_eq, tgX_eq, taX_eq, tgsX_eq, forX_eq, lcX_eq, itvX_eq, itlX_eq, zipX_eq, augX_eq, subX_eq, callX_eq, newX_eq, slrX_eq, frX_eq, bkX_eq, bkE_eq, truX_eq, rgX_eq, rg2X_eq, rgdX_eq, rglX_eq, rgtX_eq] at *
  simpa only [bltW, hn] using k
theorem bl_lstD {n : Nat} {kv : List (D × D)} (hn : S n = some (.dic kv)) (k : newX (kv.map (·.1)) S K) : bltX .list [.ref n] S K := by
  simp only [exX_eq, exsX_eq, oeX_eq, ocX_eq, itX_eq, sxX_eq, sxsX_eq, binX_eq, cmpX_eq, idxX_eq, bltX_eq, slcX_eq, isiX_eq, rcvX_eq, mthX_eq, tgX_eq, taX_eq, tgsX_eq, forX_eq, lcX_eq, itvX_eq, itlX_eq, zipX_eq, augX_eq, subX_eq, callX_eq, newX_eq, slrX_eq, frX_eq, bkX_eq, bkE_eq, truX_eq, rgX_eq, rg2X_eq, rgdX_eq, rglX_eq, rgtX_eq] at *
  simpa only [bltW, hn] using k
theorem bl_str {i : Int} (k : K (.str (toString i : String)) S) (h : i.natAbs.log2 < 1920) : bltX .str [.int i] S K := by
  simp only [exX_eq, exsX_eq, oeX_eq, ocX_eq, itX_eq, sxX_eq, sxsX_eq, binX_eq, cmpX_eq, idxX_eq, bltX_eq, slcX_eq, isiX_eq, rcvX_eq, mthX_eq, tgX_eq, taX_eq, tgsX_eq, forX_eq, lcX_eq, itvX_eq, itlX_eq, zipX_eq, augX_eq, subX_eq, callX_eq, newX_eq, slrX_eq, frX_eq, bkX_eq, bkE_eq, truX_eq, rgX_eq, rg2X_eq, rgdX_eq, rglX_eq, rgtX_eq] at *
  exact ⟨h, k⟩
theorem bls_map {α : Type} (q : α → Bool) (l : List α) : bls? (l.map fun x => .bl (q x)) = some (l.map q) := by
  induction l with
  | nil => rfl
  | cons a l ih =>
    rw [List.map_cons]
    show (bls? (l.map fun x => .bl (q x))).map (q a :: ·) = _
    rw [ih]
    rfl
theorem ints_map {α : Type} (q : α → Int) (l : List α) : ints? (l.map fun x => .int (q x)) = some (l.map q) := by
  induction l with
  | nil => rfl
  | cons a l ih =>
    rw [List.map_cons]
    show (ints? (l.map fun x => .int (q x))).map (q a :: ·) = _
    rw [ih]
    rfl
theorem prs_map {α : Type} (q : α → Int × Int) (l : List α) : prs? (l.map fun x => pr (q x)) = some (l.map q) := by
  induction l with
  | nil => rfl
  | cons a l ih =>
    rw [List.map_cons]
    show (prs? (l.map fun x => pr (q x))).map (q a :: ·) = _
    rw [ih]
    rfl
theorem bls_mapN {α : Type} (q : α → Nat) (l : List α) : bls? (l.map fun x => .int (q x)) = some (l.map fun x => decide (q x ≠ 0)) := by
  induction l with
  | nil => rfl
  | cons a l ih =>
    rw [List.map_cons]
    show (bls? (l.map fun x => .int (q x))).map ((((q a : Nat) : Int) != 0) :: ·) = _
    rw [ih]
    have e : (((q a : Nat) : Int) != 0) = decide (q a ≠ 0) := by rw [Bool.eq_iff_iff]; simp
    rw [e]
    rfl
theorem bl_anyN {α : Type} {q : α → Nat} {l : List α} (k : K (.bl (l.any fun x => decide (q x ≠ 0))) S) : bltX .any [.fz (l.map fun x => .int (q x))] S K := by
  simp only [exX_eq, exsX_eq, oeX_eq, ocX_eq, itX_eq, sxX_eq, sxsX_eq, binX_eq, cmpX_eq, idxX_eq, bltX_eq, slcX_eq, isiX_eq, rcvX_eq, mthX_eq, tgX_eq, taX_eq, tgsX_eq, forX_eq, lcX_eq, itvX_eq, itlX_eq, zipX_eq, augX_eq, subX_eq, callX_eq, newX_eq, slrX_eq, frX_eq, bkX_eq, bkE_eq, truX_eq, rgX_eq, rg2X_eq, rgdX_eq, rglX_eq, rgtX_eq] at *
  refine ⟨_, rfl, _, bls_mapN q l, ?_⟩
  show K (.bl ((l.map _).any id)) S
  rw [List.any_map]; exact k
theorem bl_allN {α : Type} {q : α → Nat} {l : List α} (k : K (.bl (l.all fun x => decide (q x ≠ 0))) S) : bltX .all [.fz (l.map fun x => .int (q x))] S K := by
  simp only [exX_eq, exsX_eq, oeX_eq, ocX_eq, itX_eq, sxX_eq, sxsX_eq, binX_eq, cmpX_eq, idxX_eq, bltX_eq, slcX_eq, isiX_eq, rcvX_eq, mthX_eq, tgX_eq, taX_eq, tgsX_eq, forX_eq, lcX_eq, itvX_eq, itlX_eq, zipX_eq, augX_eq, subX_eq, callX_eq, newX_eq, slrX_eq, frX_eq, bkX_eq, bkE_eq, truX_eq, rgX_eq, rg2X_eq, rgdX_eq, rglX_eq, rgtX_eq] at *
  refine ⟨_, rfl, _, bls_mapN q l, ?_⟩
  show K (.bl ((l.map _).all id)) S
  rw [List.all_map]; exact k
theorem bl_any {α : Type} {q : α → Bool} {l : List α} (k : K (.bl (l.any q)) S) : bltX .any [.fz (l.map fun x => .bl (q x))] S K := by
  simp only [exX_eq, exsX_eq, oeX_eq, ocX_eq, itX_eq, sxX_eq, sxsX_eq, binX_eq, cmpX_eq, idxX_eq, bltX_eq, slcX_eq, isiX_eq, rcvX_eq, mthX_eq, tgX_eq, taX_eq, tgsX_eq, forX_eq, lcX_eq, itvX_eq, itlX_eq, zipX_eq, augX_eq, subX_eq, callX_eq, newX_eq, slrX_eq, frX_eq, bkX_eq, bkE_eq, truX_eq, rgX_eq, rg2X_eq, rgdX_eq, rglX_eq, rgtX_eq] at *
  refine ⟨_, rfl, _, bls_map q l, ?_⟩
  show K (.bl ((l.map q).any id)) S
  rw [List.any_map]; exact k
theorem bl_all {α : Type} {q : α → Bool} {l : List α} (k : K (.bl (l.all q)) S) : bltX .all [.fz (l.map fun x => .bl (q x))] S K := by
  simp only [exX_eq, exsX_eq, oeX_eq, ocX_eq, itX_eq, sxX_eq, sxsX_eq, binX_eq, cmpX_eq, idxX_eq, bltX_eq, slcX_eq, isiX_eq, rcvX_eq, mthX_eq, tgX_eq, taX_eq, tgsX_eq, forX_eq, lcX_eq, itvX_eq, itlX_eq, zipX_eq, augX_eq, subX_eq, callX_eq, newX_eq, slrX_eq, frX_eq, bkX_eq, bkE_eq, truX_eq, rgX_eq, rg2X_eq, rgdX_eq, rglX_eq, rgtX_eq] at *
  refine ⟨_, rfl, _, bls_map q l, ?_⟩
  show K (.bl ((l.map q).all id)) S
  rw [List.all_map]; exact k
theorem bl_sum {α : Type} {q : α → Int} {l : List α} (k : K (.int (l.map q).sum) S) : bltX .sum [.fz (l.map fun x => .int (q x))] S K := by
  simp only [exX_eq, exsX_eq, oeX_eq, ocX_eq, itX_eq, sxX_eq, sxsX_eq, binX_eq, cmpX_eq, idxX_eq, bltX_eq, slcX_eq, isiX_eq, rcvX_eq, mthX_eq, tgX_eq, taX_eq, tgsX_eq, forX_eq, lcX_eq, itvX_eq, itlX_eq, zipX_eq, augX_eq, subX_eq, callX_eq, newX_eq, slrX_eq, frX_eq, bkX_eq, bkE_eq, truX_eq, rgX_eq, rg2X_eq, rgdX_eq, rglX_eq, rgtX_eq] at *
  exact ⟨_, rfl, _, ints_map q l, k⟩
theorem bl_sorted {x : D} {l : List D} {z : List Int} (h1 : lst? S x = some l) (h2 : ints? l = some z) (k : ∀ z' : List Int, z'.Perm z → z'.Pairwise (· ≤ ·) → newX (z'.map .int) S K) : bltX .sorted [x] S K := by
  simp only [exX_eq, exsX_eq, oeX_eq, ocX_eq, itX_eq, sxX_eq, sxsX_eq, binX_eq, cmpX_eq, idxX_eq, bltX_eq, slcX_eq, isiX_eq, rcvX_eq, mthX_eq, tgX_eq, taX_eq, tgsX_eq, forX_eq, lcX_eq, itvX_eq, itlX_eq, zipX_eq, augX_eq, subX_eq, callX_eq, newX_eq, slrX_eq, frX_eq, bkX_eq, bkE_eq, truX_eq, rgX_eq, rg2X_eq, rgdX_eq, rglX_eq, rgtX_eq] at *
  exact ⟨l, h1, .inl ⟨z, h2, k⟩⟩
theorem bl_sortedP {x : D} {l : List D} {z : List (Int × Int)} (h1 : lst? S x = some l) (h2 : prs? l = some z) (k : ∀ z' : List (Int × Int), z'.Perm z → z'.Pairwise (fun a b => a.1 < b.1 ∨ (a.1 = b.1 ∧ a.2 ≤ b.2)) → newX (z'.map pr) S K) : bltX .sorted [x] S K := by
  simp only [exX_eq, exsX_eq, oeX_eq, ocX_eq, itX_eq, sxX_eq, sxsX_eq, binX_eq, cmpX_eq, idxX_eq, bltX_eq, slcX_eq, isiX_eq, rcvX_eq, mthX_eq, tgX_eq, taX_eq, tgsX_eq, forX_eq, lcX_eq, itvX_eq, itlX_eq, zipX_eq, augX_eq, subX_eq, callX_eq, newX_eq, slrX_eq, frX_eq, bkX_eq, bkE_eq, truX_eq, rgX_eq, rg2X_eq, rgdX_eq, rglX_eq, rgtX_eq] at *
  exact ⟨l, h1, .inr (.inl ⟨z, h2, k⟩)⟩
theorem bl_sortedT {x : D} {l : List D} {z : List (List Int)} (h1 : lst? S x = some l) (h2 : tps? l = some z) (hz : (∀ t ∈ z, t ≠ []) ∨ ∀ t ∈ z, t = []) (k : ∀ z' : List (List Int), z'.Perm z → z'.Pairwise (fun a b => lexI b a = false) → newX (z'.map tpI) S K) : bltX .sorted [x] S K := by
  simp only [exX_eq, exsX_eq, oeX_eq, ocX_eq, itX_eq, sxX_eq, sxsX_eq, binX_eq, cmpX_eq, idxX_eq, bltX_eq, slcX_eq, isiX_eq, rcvX_eq, mthX_eq, tgX_eq, taX_eq, tgsX_eq, forX_eq, lcX_eq, itvX_eq, itlX_eq, zipX_eq, augX_eq, subX_eq, callX_eq, newX_eq, slrX_eq, frX_eq, bkX_eq, bkE_eq, truX_eq, rgX_eq, rg2X_eq, rgdX_eq, rglX_eq, rgtX_eq] at *
  exact ⟨l, h1, .inr (.inr ⟨z, h2, hz, k⟩)⟩
/-! dicts whose keys are tuples of ints -/
theorem eqF_ints (n : Nat) : ∀ a b : List Int, allF (eqF n) (a.map D.int) (b.map D.int) = decide (a = b)
  | [], [] => rfl
  | [], _ :: _ => rfl
  | _ :: _, [] => rfl
  | x :: a, y :: b => by
    show (eqF n (.int x) (.int y) && allF (eqF n) (a.map D.int) (b.map D.int)) = _
    rw [eqF_ints n a b]
    have e : eqF n (.int x) (.int y) = decide (x = y) := by
      cases n <;> (simp only [eqF]; rw [Bool.eq_iff_iff]; simp)
    rw [e, ← Bool.decide_and]
    exact decide_eq_decide.2 ⟨fun e => by rw [e.1, e.2], fun e => by cases e; exact ⟨rfl, rfl⟩⟩
theorem isTk_map {α : Type} (f : α → Int) (l : List α) : isTk (.tup (l.map fun x => .int (f x))) = true := by
  show (ints? (l.map fun x => D.int (f x))).isSome = true
  rw [ints_map]; rfl
theorem c_inK0 {x : D} {n : Nat} {K : Bool → Prop} (hn : S n = some (.dic [])) (f1 : isTk x = true) (k : K false) : cmpX .inn x (.ref n) S K := by
  simp only [exX_eq, exsX_eq, oeX_eq, ocX_eq, itX_eq, sxX_eq, sxsX_eq, binX_eq, cmpX_eq, idxX_eq, bltX_eq, slcX_eq, isiX_eq, rcvX_eq, mthX_eq, tgX_eq, taX_eq, tgsX_eq, forX_eq, lcX_eq, itvX_eq, itlX_eq, zipX_eq, augX_eq, subX_eq, callX_eq, newX_eq, slrX_eq, frX_eq, bkX_eq, bkE_eq, truX_eq, rgX_eq, rg2X_eq, rgdX_eq, rglX_eq, rgtX_eq] at *
  simp only [cmpW, inW, hn]
  exact .inr ⟨f1, trivial, k⟩
theorem c_niK0 {x : D} {n : Nat} {K : Bool → Prop} (hn : S n = some (.dic [])) (f1 : isTk x = true) (k : K true) : cmpX .notin x (.ref n) S K := by
  simp only [exX_eq, exsX_eq, oeX_eq, ocX_eq, itX_eq, sxX_eq, sxsX_eq, binX_eq, cmpX_eq, idxX_eq, bltX_eq, slcX_eq, isiX_eq, rcvX_eq, mthX_eq, tgX_eq, taX_eq, tgsX_eq, forX_eq, lcX_eq, itvX_eq, itlX_eq, zipX_eq, augX_eq, subX_eq, callX_eq, newX_eq, slrX_eq, frX_eq, bkX_eq, bkE_eq, truX_eq, rgX_eq, rg2X_eq, rgdX_eq, rglX_eq, rgtX_eq] at *
  simp only [cmpW, inW, hn]
  exact .inr ⟨f1, trivial, k⟩
theorem c_inK {x : D} {n : Nat} {l : List (D × D)} {c : Bool} {K : Bool → Prop} (hn : S n = some (.dit l)) (f1 : isTk x = true) (h : hask l x = c) (k : K c) : cmpX .inn x (.ref n) S K := by
  simp only [exX_eq, exsX_eq, oeX_eq, ocX_eq, itX_eq, sxX_eq, sxsX_eq, binX_eq, cmpX_eq, idxX_eq, bltX_eq, slcX_eq, isiX_eq, rcvX_eq, mthX_eq, tgX_eq, taX_eq, tgsX_eq, forX_eq, lcX_eq, itvX_eq, itlX_eq, zipX_eq, augX_eq, subX_eq, callX_eq, newX_eq, slrX_eq, frX_eq, bkX_eq, bkE_eq, truX_eq, rgX_eq, rg2X_eq, rgdX_eq, rglX_eq, rgtX_eq] at *
  simp only [cmpW, inW, hn]
  exact ⟨f1, by rw [h]; exact k⟩
theorem c_niK {x : D} {n : Nat} {l : List (D × D)} {c : Bool} {K : Bool → Prop} (hn : S n = some (.dit l)) (f1 : isTk x = true) (h : hask l x = c) (k : K (!c)) : cmpX .notin x (.ref n) S K := by
  simp only [exX_eq, exsX_eq, oeX_eq, ocX_eq, itX_eq, sxX_eq, sxsX_eq, binX_eq, cmpX_eq, idxX_eq, bltX_eq, slcX_eq, isiX_eq, rcvX_eq, mthX_eq, tgX_eq, taX_eq, tgsX_eq, forX_eq, lcX_eq, itvX_eq, itlX_eq, zipX_eq, augX_eq, subX_eq, callX_eq, newX_eq, slrX_eq, frX_eq, bkX_eq, bkE_eq, truX_eq, rgX_eq, rg2X_eq, rgdX_eq, rglX_eq, rgtX_eq] at *
  simp only [cmpW, inW, hn]
  exact ⟨f1, by rw [h]; exact k⟩
theorem ix_dit {n : Nat} {l : List (D × D)} {x d : D} {K : D → Prop} (hn : S n = some (.dit l)) (hx : isTk x = true) (h : getk l x = some d) (k : K d) : idxX (.ref n) x S K := by
  simp only [exX_eq, exsX_eq, oeX_eq, ocX_eq, itX_eq, sxX_eq, sxsX_eq, binX_eq, cmpX_eq, idxX_eq, bltX_eq, slcX_eq, isiX_eq, rcvX_eq, mthX_eq, tgX_eq, taX_eq, tgsX_eq, forX_eq, lcX_eq, itvX_eq, itlX_eq, zipX_eq, augX_eq, subX_eq, callX_eq, newX_eq, slrX_eq, frX_eq, bkX_eq, bkE_eq, truX_eq, rgX_eq, rg2X_eq, rgdX_eq, rglX_eq, rgtX_eq] at *
  cases x with
  | tup m =>
    simp only [idxW, hn]
    exact ⟨hx, d, h, k⟩
  | _ => cases hx
theorem su_dit0 {n : Nat} {i v : D} {K : Sto → Prop} (hn : S n = some (.dic [])) (hi : isTk i = true) (k : K (put S n (.dit [(i, v)]))) : subX (.ref n) i v S K := by
  simp only [exX_eq, exsX_eq, oeX_eq, ocX_eq, itX_eq, sxX_eq, sxsX_eq, binX_eq, cmpX_eq, idxX_eq, bltX_eq, slcX_eq, isiX_eq, rcvX_eq, mthX_eq, tgX_eq, taX_eq, tgsX_eq, forX_eq, lcX_eq, itvX_eq, itlX_eq, zipX_eq, augX_eq, subX_eq, callX_eq, newX_eq, slrX_eq, frX_eq, bkX_eq, bkE_eq, truX_eq, rgX_eq, rg2X_eq, rgdX_eq, rglX_eq, rgtX_eq] at *
  simp only [subW, hn]
  cases i <;> first | exact .inr ⟨hi, trivial, k⟩ | cases hi
theorem su_dit {n : Nat} {kv : List (D × D)} {i v : D} {K : Sto → Prop} (hn : S n = some (.dit kv)) (hi : isTk i = true) (hz : kv.length < line) (k : K (put S n (.dit (putk kv i v)))) : subX (.ref n) i v S K := by
  simp only [exX_eq, exsX_eq, oeX_eq, ocX_eq, itX_eq, sxX_eq, sxsX_eq, binX_eq, cmpX_eq, idxX_eq, bltX_eq, slcX_eq, isiX_eq, rcvX_eq, mthX_eq, tgX_eq, taX_eq, tgsX_eq, forX_eq, lcX_eq, itvX_eq, itlX_eq, zipX_eq, augX_eq, subX_eq, callX_eq, newX_eq, slrX_eq, frX_eq, bkX_eq, bkE_eq, truX_eq, rgX_eq, rg2X_eq, rgdX_eq, rglX_eq, rgtX_eq] at *
  simp only [subW, hn]
  cases i <;> first | exact ⟨hi, hz, k⟩ | cases hi
theorem bl_lenK {n : Nat} {l : List (D × D)} (hn : S n = some (.dit l)) (k : K (.int l.length) S) : bltX .len [.ref n] S K := by
  simp only [exX_eq, exsX_eq, oeX_eq, ocX_eq, itX_eq, sxX_eq, sxsX_eq, binX_eq, cmpX_eq, idxX_eq, bltX_eq, slcX_eq, isiX_eq, rcvX_eq, mthX_eq, tgX_eq, taX_eq, tgsX_eq, forX_eq, lcX_eq, itvX_eq, itlX_eq, zipX_eq, augX_eq, subX_eq, callX_eq, newX_eq, slrX_eq, frX_eq, bkX_eq, bkE_eq, truX_eq, rgX_eq, rg2X_eq, rgdX_eq, rglX_eq, rgtX_eq] at *
  simpa only [bltW, hn] using k
theorem bl_lstK {n : Nat} {kv : List (D × D)} (hn : S n = some (.dit kv)) (k : newX (kv.map (·.1)) S K) : bltX .list [.ref n] S K := by
  simp only [exX_eq, exsX_eq, oeX_eq, ocX_eq, itX_eq, sxX_eq, sxsX_eq, binX_eq, cmpX_eq, idxX_eq, bltX_eq, slcX_eq, isiX_eq, rcvX_eq, mthX_eq, tgX_eq, taX_eq, tgsX_eq, forX_eq, lcX_eq, itvX_eq, itlX_eq, zipX_eq, augX_eq, subX_eq, callX_eq, newX_eq, slrX_eq, frX_eq, bkX_eq, bkE_eq, truX_eq, rgX_eq, rg2X_eq, rgdX_eq, rglX_eq, rgtX_eq] at *
  simpa only [bltW, hn] using k
theorem tps_map {α : Type} (q : α → List Int) (l : List α) : tps? (l.map fun x => tpI (q x)) = some (l.map q) := by
  have one : ∀ t : List Int, ints? (t.map D.int) = some t := fun t => by
    have := ints_map (fun i : Int => i) t
    rw [List.map_id'] at this
    exact this
  induction l with
  | nil => rfl
  | cons a l ih =>
    rw [List.map_cons]
    show (ints? ((q a).map D.int)).bind (fun x => (tps? (l.map fun x => tpI (q x))).map (x :: ·)) = _
    rw [ih, one]
    rfl
theorem mt_append {n : Nat} {l : List D} {x : D} (hn : S n = some (.lst l)) (k : K .non (put S n (.lst (l ++ [x])))) (h : l.length < line) : mthX .append (.ref n) [x] S K := by
  simp only [exX_eq, exsX_eq, oeX_eq, ocX_eq, itX_eq, sxX_eq, sxsX_eq, binX_eq, cmpX_eq, idxX_eq, bltX_eq, slcX_eq, isiX_eq, rcvX_eq, mthX_eq, tgX_eq, taX_eq, tgsX_eq, forX_eq, lcX_eq, itvX_eq, itlX_eq, zipX_eq, augX_eq, subX_eq, callX_eq, newX_eq, slrX_eq, frX_eq, bkX_eq, bkE_eq, truX_eq, rgX_eq, rg2X_eq, rgdX_eq, rglX_eq, rgtX_eq] at *
  simp only [mthW, hn]
  exact ⟨h, k⟩
theorem mt_extend {n : Nat} {l r : List D} {x : D} (hn : S n = some (.lst l)) (hm : seq? S x = some r) (k : K .non (put S n (.lst (l ++ r)))) (h : l.length + r.length ≤ line) : mthX .extend (.ref n) [x] S K := by
  simp only [exX_eq, exsX_eq, oeX_eq, ocX_eq, itX_eq, sxX_eq, sxsX_eq, binX_eq, cmpX_eq, idxX_eq, bltX_eq, slcX_eq, isiX_eq, rcvX_eq, mthX_eq, tgX_eq, taX_eq, tgsX_eq, forX_eq, lcX_eq, itvX_eq, itlX_eq, zipX_eq, augX_eq, subX_eq, callX_eq, newX_eq, slrX_eq, frX_eq, bkX_eq, bkE_eq, truX_eq, rgX_eq, rg2X_eq, rgdX_eq, rglX_eq, rgtX_eq] at *
  simp only [mthW, hn]
  exact ⟨r, hm, h, k⟩
theorem mt_pop0 {n : Nat} {l : List D} {x : D} (hn : S n = some (.lst (l ++ [x]))) (k : K x (put S n (.lst l))) : mthX .pop0 (.ref n) [] S K := by
  simp only [exX_eq, exsX_eq, oeX_eq, ocX_eq, itX_eq, sxX_eq, sxsX_eq, binX_eq, cmpX_eq, idxX_eq, bltX_eq, slcX_eq, isiX_eq, rcvX_eq, mthX_eq, tgX_eq, taX_eq, tgsX_eq, forX_eq, lcX_eq, itvX_eq, itlX_eq, zipX_eq, augX_eq, subX_eq, callX_eq, newX_eq, slrX_eq, frX_eq, bkX_eq, bkE_eq, truX_eq, rgX_eq, rg2X_eq, rgdX_eq, rglX_eq, rgtX_eq] at *
  simp only [mthW, hn]
  exact ⟨x, by simp, by rw [List.dropLast_concat]; exact k⟩
theorem mt_pop1 {n j : Nat} {l : List D} {x : D} (hn : S n = some (.lst l)) (hx : l[j]? = some x) (k : K x (put S n (.lst (l.eraseIdx j)))) : mthX .pop1 (.ref n) [.int j] S K := by
  simp only [exX_eq, exsX_eq, oeX_eq, ocX_eq, itX_eq, sxX_eq, sxsX_eq, binX_eq, cmpX_eq, idxX_eq, bltX_eq, slcX_eq, isiX_eq, rcvX_eq, mthX_eq, tgX_eq, taX_eq, tgsX_eq, forX_eq, lcX_eq, itvX_eq, itlX_eq, zipX_eq, augX_eq, subX_eq, callX_eq, newX_eq, slrX_eq, frX_eq, bkX_eq, bkE_eq, truX_eq, rgX_eq, rg2X_eq, rgdX_eq, rglX_eq, rgtX_eq] at *
  simp only [mthW, hn]
  have hj : j < l.length := by
    rcases Nat.lt_or_ge j l.length with h | h
    · exact h
    · rw [List.getElem?_eq_none h] at hx; cases hx
  exact ⟨j, by unfold ixn; rw [if_pos (by omega), if_pos (by show (j : Int) < (l.length : Int); omega)]; rfl, x, hx, k⟩
theorem mt_insert {n j : Nat} {l : List D} {x : D} (hn : S n = some (.lst l)) (hj : j < 2 ^ 62) (hl : l.length < line) (k : K .non (put S n (.lst (l.take j ++ [x] ++ l.drop j)))) : mthX .insert (.ref n) [.int j, x] S K := by
  simp only [exX_eq, exsX_eq, oeX_eq, ocX_eq, itX_eq, sxX_eq, sxsX_eq, binX_eq, cmpX_eq, idxX_eq, bltX_eq, slcX_eq, isiX_eq, rcvX_eq, mthX_eq, tgX_eq, taX_eq, tgsX_eq, forX_eq, lcX_eq, itvX_eq, itlX_eq, zipX_eq, augX_eq, subX_eq, callX_eq, newX_eq, slrX_eq, frX_eq, bkX_eq, bkE_eq, truX_eq, rgX_eq, rg2X_eq, rgdX_eq, rglX_eq, rgtX_eq] at *
  simp only [mthW, hn]
  exact ⟨hl, by omega, by omega, k⟩
theorem mt_bits {a : Nat} (k : K (.int (blN a : Nat)) S) : mthX .bitlen (.int a) [] S K := by
  simp only [exX_eq, exsX_eq, oeX_eq, ocX_eq, itX_eq, sxX_eq, sxsX_eq, binX_eq, cmpX_eq, idxX_eq, bltX_eq, slcX_eq, isiX_eq, rcvX_eq, mthX_eq, tgX_eq, taX_eq, tgsX_eq, forX_eq, lcX_eq, itvX_eq, itlX_eq, zipX_eq, augX_eq, subX_eq, callX_eq, newX_eq, slrX_eq, frX_eq, bkX_eq, bkE_eq, truX_eq, rgX_eq, rg2X_eq, rgdX_eq, rglX_eq, rgtX_eq] at *
  show K (.int (blen a)) S
  have e : blen a = ((blN a : Nat) : Int) := by
    unfold blen blN
    by_cases h : a = 0
    · subst h; rfl
    · rw [if_neg (by omega), if_neg h]; rfl
  rw [e]; exact k
theorem rcv_bits {a : Int} {P : Prop} (k : P) : rcvX .bitlen (.int a) S ∧ P := ⟨by simp only [exX_eq, exsX_eq, oeX_eq, ocX_eq, itX_eq, sxX_eq, sxsX_eq, binX_eq, cmpX_eq, idxX_eq, bltX_eq, slcX_eq, isiX_eq, rcvX_eq, mthX_eq, tgX_eq, taX_eq, tgsX_eq, forX_eq, lcX_eq, itvX_eq, itlX_eq, zipX_eq, augX_eq, subX_eq, callX_eq, newX_eq, slrX_eq, frX_eq, bkX_eq, bkE_eq, truX_eq, rgX_eq, rg2X_eq, rgdX_eq, rglX_eq, rgtX_eq]; trivial, k⟩
theorem rcv_l {m : Mt} {n : Nat} {l : List D} {P : Prop} (hn : S n = some (.lst l)) (h : m ≠ .bitlen ∧ m ≠ .get2) (k : P) : rcvX m (.ref n) S ∧ P := by
  simp only [exX_eq, exsX_eq, oeX_eq, ocX_eq, itX_eq, sxX_eq, sxsX_eq, binX_eq, cmpX_eq, idxX_eq, bltX_eq, slcX_eq, isiX_eq, rcvX_eq, mthX_eq, tgX_eq, taX_eq, tgsX_eq, forX_eq, lcX_eq, itvX_eq, itlX_eq, zipX_eq, augX_eq, subX_eq, callX_eq, newX_eq, slrX_eq, frX_eq, bkX_eq, bkE_eq, truX_eq, rgX_eq, rg2X_eq, rgdX_eq, rglX_eq, rgtX_eq] at *
  refine ⟨?_, k⟩
  cases m <;> first | exact absurd rfl h.1 | exact absurd rfl h.2 | simp only [rcvW, hn]
theorem rcv_d {n : Nat} {l : List (D × D)} {P : Prop} (hn : S n = some (.dic l)) (k : P) : rcvX .get2 (.ref n) S ∧ P := by
  simp only [exX_eq, exsX_eq, oeX_eq, ocX_eq, itX_eq, sxX_eq, sxsX_eq, binX_eq, cmpX_eq, idxX_eq, bltX_eq, slcX_eq, isiX_eq, rcvX_eq, mthX_eq, tgX_eq, taX_eq, tgsX_eq, forX_eq, lcX_eq, itvX_eq, itlX_eq, zipX_eq, augX_eq, subX_eq, callX_eq, newX_eq, slrX_eq, frX_eq, bkX_eq, bkE_eq, truX_eq, rgX_eq, rg2X_eq, rgdX_eq, rglX_eq, rgtX_eq] at *
  exact ⟨by simp only [rcvW, hn], k⟩
theorem rcv_fi {l : List D} {P : Prop} (k : P) : rcvX .index (.fz l) S ∧ P := ⟨by simp only [exX_eq, exsX_eq, oeX_eq, ocX_eq, itX_eq, sxX_eq, sxsX_eq, binX_eq, cmpX_eq, idxX_eq, bltX_eq, slcX_eq, isiX_eq, rcvX_eq, mthX_eq, tgX_eq, taX_eq, tgsX_eq, forX_eq, lcX_eq, itvX_eq, itlX_eq, zipX_eq, augX_eq, subX_eq, callX_eq, newX_eq, slrX_eq, frX_eq, bkX_eq, bkE_eq, truX_eq, rgX_eq, rg2X_eq, rgdX_eq, rglX_eq, rgtX_eq]; trivial, k⟩
theorem rcv_tc {l : List D} {P : Prop} (k : P) : rcvX .count (.tup l) S ∧ P := ⟨by simp only [exX_eq, exsX_eq, oeX_eq, ocX_eq, itX_eq, sxX_eq, sxsX_eq, binX_eq, cmpX_eq, idxX_eq, bltX_eq, slcX_eq, isiX_eq, rcvX_eq, mthX_eq, tgX_eq, taX_eq, tgsX_eq, forX_eq, lcX_eq, itvX_eq, itlX_eq, zipX_eq, augX_eq, subX_eq, callX_eq, newX_eq, slrX_eq, frX_eq, bkX_eq, bkE_eq, truX_eq, rgX_eq, rg2X_eq, rgdX_eq, rglX_eq, rgtX_eq]; trivial, k⟩
/-- t.count(x) -/
theorem mt_cntT {l : List D} {x : D} (f1 : fin 12 x = true) (f2 : l.all (fin 12) = true) (k : K (.int (l.countP fun y => eqF 12 y x : Nat)) S) : mthX .count (.tup l) [x] S K := by
  simp only [exX_eq, exsX_eq, oeX_eq, ocX_eq, itX_eq, sxX_eq, sxsX_eq, binX_eq, cmpX_eq, idxX_eq, bltX_eq, slcX_eq, isiX_eq, rcvX_eq, mthX_eq, tgX_eq, taX_eq, tgsX_eq, forX_eq, lcX_eq, itvX_eq, itlX_eq, zipX_eq, augX_eq, subX_eq, callX_eq, newX_eq, slrX_eq, frX_eq, bkX_eq, bkE_eq, truX_eq, rgX_eq, rg2X_eq, rgdX_eq, rglX_eq, rgtX_eq] at *
  exact ⟨by rw [f1, f2]; rfl, k⟩
theorem rcv_fc {l : List D} {P : Prop} (k : P) : rcvX .count (.fz l) S ∧ P := ⟨by simp only [exX_eq, exsX_eq, oeX_eq, ocX_eq, itX_eq, sxX_eq, sxsX_eq, binX_eq, cmpX_eq, idxX_eq, bltX_eq, slcX_eq, isiX_eq, rcvX_eq, mthX_eq, tgX_eq, taX_eq, tgsX_eq, forX_eq, lcX_eq, itvX_eq, itlX_eq, zipX_eq, augX_eq, subX_eq, callX_eq, newX_eq, slrX_eq, frX_eq, bkX_eq, bkE_eq, truX_eq, rgX_eq, rg2X_eq, rgdX_eq, rglX_eq, rgtX_eq]; trivial, k⟩
theorem tg_nm {i : Nat} {d : D} {K : Loc → Prop} (k : K (σ.set i (some d))) : tgX (.nm i) d σ K := by
  simp only [exX_eq, exsX_eq, oeX_eq, ocX_eq, itX_eq, sxX_eq, sxsX_eq, binX_eq, cmpX_eq, idxX_eq, bltX_eq, slcX_eq, isiX_eq, rcvX_eq, mthX_eq, tgX_eq, taX_eq, tgsX_eq, forX_eq, lcX_eq, itvX_eq, itlX_eq, zipX_eq, augX_eq, subX_eq, callX_eq, newX_eq, slrX_eq, frX_eq, bkX_eq, bkE_eq, truX_eq, rgX_eq, rg2X_eq, rgdX_eq, rglX_eq, rgtX_eq] at *
  exact k
theorem tg_n0 {c : Option D} {r : Loc} {d : D} {K : Loc → Prop} (k : K (some d :: r)) : tgX (.nm 0) d (c :: r) K := tg_nm k
theorem tg_n1 {a0 : Option D} {c : Option D} {r : Loc} {d : D} {K : Loc → Prop} (k : K (a0 :: some d :: r)) : tgX (.nm 1) d (a0 :: c :: r) K := tg_nm k
theorem tg_n2 {a0 a1 : Option D} {c : Option D} {r : Loc} {d : D} {K : Loc → Prop} (k : K (a0 :: a1 :: some d :: r)) : tgX (.nm 2) d (a0 :: a1 :: c :: r) K := tg_nm k
theorem tg_n3 {a0 a1 a2 : Option D} {c : Option D} {r : Loc} {d : D} {K : Loc → Prop} (k : K (a0 :: a1 :: a2 :: some d :: r)) : tgX (.nm 3) d (a0 :: a1 :: a2 :: c :: r) K := tg_nm k
theorem tg_n4 {a0 a1 a2 a3 : Option D} {c : Option D} {r : Loc} {d : D} {K : Loc → Prop} (k : K (a0 :: a1 :: a2 :: a3 :: some d :: r)) : tgX (.nm 4) d (a0 :: a1 :: a2 :: a3 :: c :: r) K := tg_nm k
theorem tg_n5 {a0 a1 a2 a3 a4 : Option D} {c : Option D} {r : Loc} {d : D} {K : Loc → Prop} (k : K (a0 :: a1 :: a2 :: a3 :: a4 :: some d :: r)) : tgX (.nm 5) d (a0 :: a1 :: a2 :: a3 :: a4 :: c :: r) K := tg_nm k
theorem tg_n6 {a0 a1 a2 a3 a4 a5 : Option D} {c : Option D} {r : Loc} {d : D} {K : Loc → Prop} (k : K (a0 :: a1 :: a2 :: a3 :: a4 :: a5 :: some d :: r)) : tgX (.nm 6) d (a0 :: a1 :: a2 :: a3 :: a4 :: a5 :: c :: r) K := tg_nm k
theorem tg_n7 {a0 a1 a2 a3 a4 a5 a6 : Option D} {c : Option D} {r : Loc} {d : D} {K : Loc → Prop} (k : K (a0 :: a1 :: a2 :: a3 :: a4 :: a5 :: a6 :: some d :: r)) : tgX (.nm 7) d (a0 :: a1 :: a2 :: a3 :: a4 :: a5 :: a6 :: c :: r) K := tg_nm k
theorem tg_n8 {a0 a1 a2 a3 a4 a5 a6 a7 : Option D} {c : Option D} {r : Loc} {d : D} {K : Loc → Prop} (k : K (a0 :: a1 :: a2 :: a3 :: a4 :: a5 :: a6 :: a7 :: some d :: r)) : tgX (.nm 8) d (a0 :: a1 :: a2 :: a3 :: a4 :: a5 :: a6 :: a7 :: c :: r) K := tg_nm k
theorem tg_n9 {a0 a1 a2 a3 a4 a5 a6 a7 a8 : Option D} {c : Option D} {r : Loc} {d : D} {K : Loc → Prop} (k : K (a0 :: a1 :: a2 :: a3 :: a4 :: a5 :: a6 :: a7 :: a8 :: some d :: r)) : tgX (.nm 9) d (a0 :: a1 :: a2 :: a3 :: a4 :: a5 :: a6 :: a7 :: a8 :: c :: r) K := tg_nm k
theorem tg_n10 {a0 a1 a2 a3 a4 a5 a6 a7 a8 a9 : Option D} {c : Option D} {r : Loc} {d : D} {K : Loc → Prop} (k : K (a0 :: a1 :: a2 :: a3 :: a4 :: a5 :: a6 :: a7 :: a8 :: a9 :: some d :: r)) : tgX (.nm 10) d (a0 :: a1 :: a2 :: a3 :: a4 :: a5 :: a6 :: a7 :: a8 :: a9 :: c :: r) K := tg_nm k
theorem tg_n11 {a0 a1 a2 a3 a4 a5 a6 a7 a8 a9 a10 : Option D} {c : Option D} {r : Loc} {d : D} {K : Loc → Prop} (k : K (a0 :: a1 :: a2 :: a3 :: a4 :: a5 :: a6 :: a7 :: a8 :: a9 :: a10 :: some d :: r)) : tgX (.nm 11) d (a0 :: a1 :: a2 :: a3 :: a4 :: a5 :: a6 :: a7 :: a8 :: a9 :: a10 :: c :: r) K := tg_nm k
theorem tg_n12 {a0 a1 a2 a3 a4 a5 a6 a7 a8 a9 a10 a11 : Option D} {c : Option D} {r : Loc} {d : D} {K : Loc → Prop} (k : K (a0 :: a1 :: a2 :: a3 :: a4 :: a5 :: a6 :: a7 :: a8 :: a9 :: a10 :: a11 :: some d :: r)) : tgX (.nm 12) d (a0 :: a1 :: a2 :: a3 :: a4 :: a5 :: a6 :: a7 :: a8 :: a9 :: a10 :: a11 :: c :: r) K := tg_nm k
theorem tg_n13 {a0 a1 a2 a3 a4 a5 a6 a7 a8 a9 a10 a11 a12 : Option D} {c : Option D} {r : Loc} {d : D} {K : Loc → Prop} (k : K (a0 :: a1 :: a2 :: a3 :: a4 :: a5 :: a6 :: a7 :: a8 :: a9 :: a10 :: a11 :: a12 :: some d :: r)) : tgX (.nm 13) d (a0 :: a1 :: a2 :: a3 :: a4 :: a5 :: a6 :: a7 :: a8 :: a9 :: a10 :: a11 :: a12 :: c :: r) K := tg_nm k
theorem tg_n14 {a0 a1 a2 a3 a4 a5 a6 a7 a8 a9 a10 a11 a12 a13 : Option D} {c : Option D} {r : Loc} {d : D} {K : Loc → Prop} (k : K (a0 :: a1 :: a2 :: a3 :: a4 :: a5 :: a6 :: a7 :: a8 :: a9 :: a10 :: a11 :: a12 :: a13 :: some d :: r)) : tgX (.nm 14) d (a0 :: a1 :: a2 :: a3 :: a4 :: a5 :: a6 :: a7 :: a8 :: a9 :: a10 :: a11 :: a12 :: a13 :: c :: r) K := tg_nm k
theorem tg_n15 {a0 a1 a2 a3 a4 a5 a6 a7 a8 a9 a10 a11 a12 a13 a14 : Option D} {c : Option D} {r : Loc} {d : D} {K : Loc → Prop} (k : K (a0 :: a1 :: a2 :: a3 :: a4 :: a5 :: a6 :: a7 :: a8 :: a9 :: a10 :: a11 :: a12 :: a13 :: a14 :: some d :: r)) : tgX (.nm 15) d (a0 :: a1 :: a2 :: a3 :: a4 :: a5 :: a6 :: a7 :: a8 :: a9 :: a10 :: a11 :: a12 :: a13 :: a14 :: c :: r) K := tg_nm k
theorem tg_n16 {a0 a1 a2 a3 a4 a5 a6 a7 a8 a9 a10 a11 a12 a13 a14 a15 : Option D} {c : Option D} {r : Loc} {d : D} {K : Loc → Prop} (k : K (a0 :: a1 :: a2 :: a3 :: a4 :: a5 :: a6 :: a7 :: a8 :: a9 :: a10 :: a11 :: a12 :: a13 :: a14 :: a15 :: some d :: r)) : tgX (.nm 16) d (a0 :: a1 :: a2 :: a3 :: a4 :: a5 :: a6 :: a7 :: a8 :: a9 :: a10 :: a11 :: a12 :: a13 :: a14 :: a15 :: c :: r) K := tg_nm k
theorem tg_n17 {a0 a1 a2 a3 a4 a5 a6 a7 a8 a9 a10 a11 a12 a13 a14 a15 a16 : Option D} {c : Option D} {r : Loc} {d : D} {K : Loc → Prop} (k : K (a0 :: a1 :: a2 :: a3 :: a4 :: a5 :: a6 :: a7 :: a8 :: a9 :: a10 :: a11 :: a12 :: a13 :: a14 :: a15 :: a16 :: some d :: r)) : tgX (.nm 17) d (a0 :: a1 :: a2 :: a3 :: a4 :: a5 :: a6 :: a7 :: a8 :: a9 :: a10 :: a11 :: a12 :: a13 :: a14 :: a15 :: a16 :: c :: r) K := tg_nm k
theorem tg_n18 {a0 a1 a2 a3 a4 a5 a6 a7 a8 a9 a10 a11 a12 a13 a14 a15 a16 a17 : Option D} {c : Option D} {r : Loc} {d : D} {K : Loc → Prop} (k : K (a0 :: a1 :: a2 :: a3 :: a4 :: a5 :: a6 :: a7 :: a8 :: a9 :: a10 :: a11 :: a12 :: a13 :: a14 :: a15 :: a16 :: a17 :: some d :: r)) : tgX (.nm 18) d (a0 :: a1 :: a2 :: a3 :: a4 :: a5 :: a6 :: a7 :: a8 :: a9 :: a10 :: a11 :: a12 :: a13 :: a14 :: a15 :: a16 :: a17 :: c :: r) K := tg_nm k
theorem tg_n19 {a0 a1 a2 a3 a4 a5 a6 a7 a8 a9 a10 a11 a12 a13 a14 a15 a16 a17 a18 : Option D} {c : Option D} {r : Loc} {d : D} {K : Loc → Prop} (k : K (a0 :: a1 :: a2 :: a3 :: a4 :: a5 :: a6 :: a7 :: a8 :: a9 :: a10 :: a11 :: a12 :: a13 :: a14 :: a15 :: a16 :: a17 :: a18 :: some d :: r)) : tgX (.nm 19) d (a0 :: a1 :: a2 :: a3 :: a4 :: a5 :: a6 :: a7 :: a8 :: a9 :: a10 :: a11 :: a12 :: a13 :: a14 :: a15 :: a16 :: a17 :: a18 :: c :: r) K := tg_nm k
theorem tg_n20 {a0 a1 a2 a3 a4 a5 a6 a7 a8 a9 a10 a11 a12 a13 a14 a15 a16 a17 a18 a19 : Option D} {c : Option D} {r : Loc} {d : D} {K : Loc → Prop} (k : K (a0 :: a1 :: a2 :: a3 :: a4 :: a5 :: a6 :: a7 :: a8 :: a9 :: a10 :: a11 :: a12 :: a13 :: a14 :: a15 :: a16 :: a17 :: a18 :: a19 :: some d :: r)) : tgX (.nm 20) d (a0 :: a1 :: a2 :: a3 :: a4 :: a5 :: a6 :: a7 :: a8 :: a9 :: a10 :: a11 :: a12 :: a13 :: a14 :: a15 :: a16 :: a17 :: a18 :: a19 :: c :: r) K := tg_nm k
theorem tg_n21 {a0 a1 a2 a3 a4 a5 a6 a7 a8 a9 a10 a11 a12 a13 a14 a15 a16 a17 a18 a19 a20 : Option D} {c : Option D} {r : Loc} {d : D} {K : Loc → Prop} (k : K (a0 :: a1 :: a2 :: a3 :: a4 :: a5 :: a6 :: a7 :: a8 :: a9 :: a10 :: a11 :: a12 :: a13 :: a14 :: a15 :: a16 :: a17 :: a18 :: a19 :: a20 :: some d :: r)) : tgX (.nm 21) d (a0 :: a1 :: a2 :: a3 :: a4 :: a5 :: a6 :: a7 :: a8 :: a9 :: a10 :: a11 :: a12 :: a13 :: a14 :: a15 :: a16 :: a17 :: a18 :: a19 :: a20 :: c :: r) K := tg_nm k
theorem tg_n22 {a0 a1 a2 a3 a4 a5 a6 a7 a8 a9 a10 a11 a12 a13 a14 a15 a16 a17 a18 a19 a20 a21 : Option D} {c : Option D} {r : Loc} {d : D} {K : Loc → Prop} (k : K (a0 :: a1 :: a2 :: a3 :: a4 :: a5 :: a6 :: a7 :: a8 :: a9 :: a10 :: a11 :: a12 :: a13 :: a14 :: a15 :: a16 :: a17 :: a18 :: a19 :: a20 :: a21 :: some d :: r)) : tgX (.nm 22) d (a0 :: a1 :: a2 :: a3 :: a4 :: a5 :: a6 :: a7 :: a8 :: a9 :: a10 :: a11 :: a12 :: a13 :: a14 :: a15 :: a16 :: a17 :: a18 :: a19 :: a20 :: a21 :: c :: r) K := tg_nm k
theorem tg_n23 {a0 a1 a2 a3 a4 a5 a6 a7 a8 a9 a10 a11 a12 a13 a14 a15 a16 a17 a18 a19 a20 a21 a22 : Option D} {c : Option D} {r : Loc} {d : D} {K : Loc → Prop} (k : K (a0 :: a1 :: a2 :: a3 :: a4 :: a5 :: a6 :: a7 :: a8 :: a9 :: a10 :: a11 :: a12 :: a13 :: a14 :: a15 :: a16 :: a17 :: a18 :: a19 :: a20 :: a21 :: a22 :: some d :: r)) : tgX (.nm 23) d (a0 :: a1 :: a2 :: a3 :: a4 :: a5 :: a6 :: a7 :: a8 :: a9 :: a10 :: a11 :: a12 :: a13 :: a14 :: a15 :: a16 :: a17 :: a18 :: a19 :: a20 :: a21 :: a22 :: c :: r) K := tg_nm k
theorem tg_tp {ts : Tgs} {l : List D} {K : Loc → Prop} (k : tgsX ts l σ K) : tgX (.tp ts) (.tup l) σ K := by
  simp only [exX_eq, exsX_eq, oeX_eq, ocX_eq, itX_eq, sxX_eq, sxsX_eq, binX_eq, cmpX_eq, idxX_eq, bltX_eq, slcX_eq, isiX_eq, rcvX_eq, mthX_eq, tgX_eq, taX_eq, tgsX_eq, forX_eq, lcX_eq, itvX_eq, itlX_eq, zipX_eq, augX_eq, subX_eq, callX_eq, newX_eq, slrX_eq, frX_eq, bkX_eq, bkE_eq, truX_eq, rgX_eq, rg2X_eq, rgdX_eq, rglX_eq, rgtX_eq] at *
  exact k
theorem tg_tpu {ts : Tgs} {l : List D} {K : Loc → Prop} (k : tgsX ts l σ K) : tgX (.tp ts) (.tpu l) σ K := by
  simp only [exX_eq, exsX_eq, oeX_eq, ocX_eq, itX_eq, sxX_eq, sxsX_eq, binX_eq, cmpX_eq, idxX_eq, bltX_eq, slcX_eq, isiX_eq, rcvX_eq, mthX_eq, tgX_eq, taX_eq, tgsX_eq, forX_eq, lcX_eq, itvX_eq, itlX_eq, zipX_eq, augX_eq, subX_eq, callX_eq, newX_eq, slrX_eq, frX_eq, bkX_eq, bkE_eq, truX_eq, rgX_eq, rg2X_eq, rgdX_eq, rglX_eq, rgtX_eq] at *
  exact k
theorem tgs_nil {K : Loc → Prop} (k : K σ) : tgsX .nil [] σ K := by
  simp only [exX_eq, exsX_eq, oeX_eq, ocX_eq, itX_eq, sxX_eq, sxsX_eq, binX_eq, cmpX_eq, idxX_eq, bltX_eq, slcX_eq, isiX_eq, rcvX_eq, mthX_eq, tgX_eq, taX_eq, tgsX_eq, forX_eq, lcX_eq, itvX_eq, itlX_eq, zipX_eq, augX_eq, subX_eq, callX_eq, newX_eq, slrX_eq, frX_eq, bkX_eq, bkE_eq, truX_eq, rgX_eq, rg2X_eq, rgdX_eq, rglX_eq, rgtX_eq] at *
  exact k
theorem tgs_cons {t : Tg} {ts : Tgs} {d : D} {r : List D} {K : Loc → Prop} (k : tgX t d σ fun σ' => tgsX ts r σ' K) : tgsX (.cons t ts) (d :: r) σ K := by
  simp only [exX_eq, exsX_eq, oeX_eq, ocX_eq, itX_eq, sxX_eq, sxsX_eq, binX_eq, cmpX_eq, idxX_eq, bltX_eq, slcX_eq, isiX_eq, rcvX_eq, mthX_eq, tgX_eq, taX_eq, tgsX_eq, forX_eq, lcX_eq, itvX_eq, itlX_eq, zipX_eq, augX_eq, subX_eq, callX_eq, newX_eq, slrX_eq, frX_eq, bkX_eq, bkE_eq, truX_eq, rgX_eq, rg2X_eq, rgdX_eq, rglX_eq, rgtX_eq] at *
  exact k
theorem fw_cons {chk : Sto → Prop} {body : D → Loc → Sto → (Loc → Sto → Prop) → Prop} {d : D} {r : List D} {K : Loc → Sto → Prop} (h : chk S) (k : body d σ S fun σ' S' => forX chk body r σ' S' K) : forX chk body (d :: r) σ S K := by
  simp only [exX_eq, exsX_eq, oeX_eq, ocX_eq, itX_eq, sxX_eq, sxsX_eq, binX_eq, cmpX_eq, idxX_eq, bltX_eq, slcX_eq, isiX_eq, rcvX_eq, mthX_eq, tgX_eq, taX_eq, tgsX_eq, forX_eq, lcX_eq, itvX_eq, itlX_eq, zipX_eq, augX_eq, subX_eq, callX_eq, newX_eq, slrX_eq, frX_eq, bkX_eq, bkE_eq, truX_eq, rgX_eq, rg2X_eq, rgdX_eq, rglX_eq, rgtX_eq] at *
  exact ⟨h, k⟩
theorem fw_nil {chk : Sto → Prop} {body : D → Loc → Sto → (Loc → Sto → Prop) → Prop} {K : Loc → Sto → Prop} (h : chk S) (k : K σ S) : forX chk body [] σ S K := by
  simp only [exX_eq, exsX_eq, oeX_eq, ocX_eq, itX_eq, sxX_eq, sxsX_eq, binX_eq, cmpX_eq, idxX_eq, bltX_eq, slcX_eq, isiX_eq, rcvX_eq, mthX_eq, tgX_eq, taX_eq, tgsX_eq, forX_eq, lcX_eq, itvX_eq, itlX_eq, zipX_eq, augX_eq, subX_eq, callX_eq, newX_eq, slrX_eq, frX_eq, bkX_eq, bkE_eq, truX_eq, rgX_eq, rg2X_eq, rgdX_eq, rglX_eq, rgtX_eq] at *
  exact ⟨h, k⟩
def isQ : D → Ty → Option Bool
  | .non, _ => some false
  | .bl _, .bool => some true
  | .bl _, .int => some true
  | .bl _, _ => some false
  | .int _, .int => some true
  | .int _, _ => some false
  | .str _, .str => some true
  | .str _, _ => some false
  | .tup _, .tuple => some true
  | .tup _, _ => some false
  | .tpu _, .tuple => some true
  | .tpu _, _ => some false
  | .fz _, .list => some true
  | .fz _, _ => some false
  | _, _ => none
theorem ii {a : D} {t : Ty} {c : Bool} {K : Bool → Prop} (h : isQ a t = some c) (k : K c) : isiX S a t K := by
  simp only [exX_eq, exsX_eq, oeX_eq, ocX_eq, itX_eq, sxX_eq, sxsX_eq, binX_eq, cmpX_eq, idxX_eq, bltX_eq, slcX_eq, isiX_eq, rcvX_eq, mthX_eq, tgX_eq, taX_eq, tgsX_eq, forX_eq, lcX_eq, itvX_eq, itlX_eq, zipX_eq, augX_eq, subX_eq, callX_eq, newX_eq, slrX_eq, frX_eq, bkX_eq, bkE_eq, truX_eq, rgX_eq, rg2X_eq, rgdX_eq, rglX_eq, rgtX_eq] at *
  cases a <;> cases t <;> cases h <;> exact k
theorem ii_lst {n : Nat} {l : List D} {t : Ty} {c : Bool} {K : Bool → Prop} (hn : S n = some (.lst l)) (h : decide (t = .list) = c) (k : K c) : isiX S (.ref n) t K := by
  simp only [exX_eq, exsX_eq, oeX_eq, ocX_eq, itX_eq, sxX_eq, sxsX_eq, binX_eq, cmpX_eq, idxX_eq, bltX_eq, slcX_eq, isiX_eq, rcvX_eq, mthX_eq, tgX_eq, taX_eq, tgsX_eq, forX_eq, lcX_eq, itvX_eq, itlX_eq, zipX_eq, augX_eq, subX_eq, callX_eq, newX_eq, slrX_eq, frX_eq, bkX_eq, bkE_eq, truX_eq, rgX_eq, rg2X_eq, rgdX_eq, rglX_eq, rgtX_eq] at *
  subst h
  simpa only [isiD, hn] using k
/-! statements -/
section
variable {nx bk ct : Loc → Sto → Prop} {rt : DK} {ex : Xc → Loc → Sto → Prop}
theorem ss_nil' (k : nx σ S) : sxsX C .nil σ S ⟨nx, rt, bk, ct, ex⟩ := by
  simp only [exX_eq, exsX_eq, oeX_eq, ocX_eq, itX_eq, sxX_eq, sxsX_eq, binX_eq, cmpX_eq, idxX_eq, bltX_eq, slcX_eq, isiX_eq, rcvX_eq, mthX_eq, tgX_eq, taX_eq, tgsX_eq, forX_eq, lcX_eq, itvX_eq, itlX_eq, zipX_eq, augX_eq, subX_eq, callX_eq, newX_eq, slrX_eq, frX_eq, bkX_eq, bkE_eq, truX_eq, rgX_eq, rg2X_eq, rgdX_eq, rglX_eq, rgtX_eq] at *
  exact k
theorem ss_cons' {s ss} (k : sxX C s σ S ⟨fun σ' S' => sxsX C ss σ' S' ⟨nx, rt, bk, ct, ex⟩, rt, bk, ct, ex⟩) : sxsX C (.cons s ss) σ S ⟨nx, rt, bk, ct, ex⟩ := by
  simp only [exX_eq, exsX_eq, oeX_eq, ocX_eq, itX_eq, sxX_eq, sxsX_eq, binX_eq, cmpX_eq, idxX_eq, bltX_eq, slcX_eq, isiX_eq, rcvX_eq, mthX_eq, tgX_eq, taX_eq, tgsX_eq, forX_eq, lcX_eq, itvX_eq, itlX_eq, zipX_eq, augX_eq, subX_eq, callX_eq, newX_eq, slrX_eq, frX_eq, bkX_eq, bkE_eq, truX_eq, rgX_eq, rg2X_eq, rgdX_eq, rglX_eq, rgtX_eq] at *
  exact k
theorem ta_nm {i : Nat} {d : D} {K : Loc → Prop} (k : tgX (.nm i) d σ K) : taX S (.nm i) d σ K := by
  simp only [exX_eq, exsX_eq, oeX_eq, ocX_eq, itX_eq, sxX_eq, sxsX_eq, binX_eq, cmpX_eq, idxX_eq, bltX_eq, slcX_eq, isiX_eq, rcvX_eq, mthX_eq, tgX_eq, taX_eq, tgsX_eq, forX_eq, lcX_eq, itvX_eq, itlX_eq, zipX_eq, augX_eq, subX_eq, callX_eq, newX_eq, slrX_eq, frX_eq, bkX_eq, bkE_eq, truX_eq, rgX_eq, rg2X_eq, rgdX_eq, rglX_eq, rgtX_eq] at *
  exact .inl k
theorem ta_tup {ts : Tgs} {l : List D} {K : Loc → Prop} (k : tgsX ts l σ K) : taX S (.tp ts) (.tup l) σ K := by
  simp only [exX_eq, exsX_eq, oeX_eq, ocX_eq, itX_eq, sxX_eq, sxsX_eq, binX_eq, cmpX_eq, idxX_eq, bltX_eq, slcX_eq, isiX_eq, rcvX_eq, mthX_eq, tgX_eq, taX_eq, tgsX_eq, forX_eq, lcX_eq, itvX_eq, itlX_eq, zipX_eq, augX_eq, subX_eq, callX_eq, newX_eq, slrX_eq, frX_eq, bkX_eq, bkE_eq, truX_eq, rgX_eq, rg2X_eq, rgdX_eq, rglX_eq, rgtX_eq] at *
  exact .inl k
theorem ta_lst {ts : Tgs} {l : List D} {x : D} {K : Loc → Prop} (h : lst? S x = some l) (k : tgsX ts l σ K) : taX S (.tp ts) x σ K := by
  simp only [exX_eq, exsX_eq, oeX_eq, ocX_eq, itX_eq, sxX_eq, sxsX_eq, binX_eq, cmpX_eq, idxX_eq, bltX_eq, slcX_eq, isiX_eq, rcvX_eq, mthX_eq, tgX_eq, taX_eq, tgsX_eq, forX_eq, lcX_eq, itvX_eq, itlX_eq, zipX_eq, augX_eq, subX_eq, callX_eq, newX_eq, slrX_eq, frX_eq, bkX_eq, bkE_eq, truX_eq, rgX_eq, rg2X_eq, rgdX_eq, rglX_eq, rgtX_eq] at *
  exact .inr ⟨_, _, rfl, h, k⟩
theorem st_asg' {t e} (k : exX C e σ (fun x S => ex x σ S) S fun x S1 => taX S1 t x σ fun σ' => nx σ' S1) : sxX C (.asg (.tg t) e) σ S ⟨nx, rt, bk, ct, ex⟩ := by
  simp only [exX_eq, exsX_eq, oeX_eq, ocX_eq, itX_eq, sxX_eq, sxsX_eq, binX_eq, cmpX_eq, idxX_eq, bltX_eq, slcX_eq, isiX_eq, rcvX_eq, mthX_eq, tgX_eq, taX_eq, tgsX_eq, forX_eq, lcX_eq, itvX_eq, itlX_eq, zipX_eq, augX_eq, subX_eq, callX_eq, newX_eq, slrX_eq, frX_eq, bkX_eq, bkE_eq, truX_eq, rgX_eq, rg2X_eq, rgdX_eq, rglX_eq, rgtX_eq] at *
  exact k
theorem st_sub' {a i e} (k : exX C e σ (fun x S => ex x σ S) S fun x S1 => exX C a σ (fun x S => ex x σ S) S1 fun o S2 => exX C i σ (fun x S => ex x σ S) S2 fun k S3 => subX o k x S3 fun S4 => nx σ S4) : sxX C (.asg (.sub a i) e) σ S ⟨nx, rt, bk, ct, ex⟩ := by
  simp only [exX_eq, exsX_eq, oeX_eq, ocX_eq, itX_eq, sxX_eq, sxsX_eq, binX_eq, cmpX_eq, idxX_eq, bltX_eq, slcX_eq, isiX_eq, rcvX_eq, mthX_eq, tgX_eq, taX_eq, tgsX_eq, forX_eq, lcX_eq, itvX_eq, itlX_eq, zipX_eq, augX_eq, subX_eq, callX_eq, newX_eq, slrX_eq, frX_eq, bkX_eq, bkE_eq, truX_eq, rgX_eq, rg2X_eq, rgdX_eq, rglX_eq, rgtX_eq] at *
  exact k
theorem st_aug' {i op e} {x : D} (k : exX C e σ (fun x S => ex x σ S) S fun y S1 => augX op x y S1 fun z S2 => nx (σ.set i (some z)) S2) (h : σ[i]? = some (some x)) : sxX C (.aug i op e) σ S ⟨nx, rt, bk, ct, ex⟩ := by
  simp only [exX_eq, exsX_eq, oeX_eq, ocX_eq, itX_eq, sxX_eq, sxsX_eq, binX_eq, cmpX_eq, idxX_eq, bltX_eq, slcX_eq, isiX_eq, rcvX_eq, mthX_eq, tgX_eq, taX_eq, tgsX_eq, forX_eq, lcX_eq, itvX_eq, itlX_eq, zipX_eq, augX_eq, subX_eq, callX_eq, newX_eq, slrX_eq, frX_eq, bkX_eq, bkE_eq, truX_eq, rgX_eq, rg2X_eq, rgdX_eq, rglX_eq, rgtX_eq] at *
  exact ⟨x, h, k⟩
theorem st_a0 {r : Loc} {x : D} {op e} (k : exX C e (some x :: r) (fun x' S => ex x' (some x :: r) S) S fun y S1 => augX op x y S1 fun z S2 => nx (some z :: r) S2) : sxX C (.aug 0 op e) (some x :: r) S ⟨nx, rt, bk, ct, ex⟩ := st_aug' k rfl
theorem st_a1 {a0 : Option D} {r : Loc} {x : D} {op e} (k : exX C e (a0 :: some x :: r) (fun x' S => ex x' (a0 :: some x :: r) S) S fun y S1 => augX op x y S1 fun z S2 => nx (a0 :: some z :: r) S2) : sxX C (.aug 1 op e) (a0 :: some x :: r) S ⟨nx, rt, bk, ct, ex⟩ := st_aug' k rfl
theorem st_a2 {a0 a1 : Option D} {r : Loc} {x : D} {op e} (k : exX C e (a0 :: a1 :: some x :: r) (fun x' S => ex x' (a0 :: a1 :: some x :: r) S) S fun y S1 => augX op x y S1 fun z S2 => nx (a0 :: a1 :: some z :: r) S2) : sxX C (.aug 2 op e) (a0 :: a1 :: some x :: r) S ⟨nx, rt, bk, ct, ex⟩ := st_aug' k rfl
theorem st_a3 {a0 a1 a2 : Option D} {r : Loc} {x : D} {op e} (k : exX C e (a0 :: a1 :: a2 :: some x :: r) (fun x' S => ex x' (a0 :: a1 :: a2 :: some x :: r) S) S fun y S1 => augX op x y S1 fun z S2 => nx (a0 :: a1 :: a2 :: some z :: r) S2) : sxX C (.aug 3 op e) (a0 :: a1 :: a2 :: some x :: r) S ⟨nx, rt, bk, ct, ex⟩ := st_aug' k rfl
theorem st_a4 {a0 a1 a2 a3 : Option D} {r : Loc} {x : D} {op e} (k : exX C e (a0 :: a1 :: a2 :: a3 :: some x :: r) (fun x' S => ex x' (a0 :: a1 :: a2 :: a3 :: some x :: r) S) S fun y S1 => augX op x y S1 fun z S2 => nx (a0 :: a1 :: a2 :: a3 :: some z :: r) S2) : sxX C (.aug 4 op e) (a0 :: a1 :: a2 :: a3 :: some x :: r) S ⟨nx, rt, bk, ct, ex⟩ := st_aug' k rfl
theorem st_a5 {a0 a1 a2 a3 a4 : Option D} {r : Loc} {x : D} {op e} (k : exX C e (a0 :: a1 :: a2 :: a3 :: a4 :: some x :: r) (fun x' S => ex x' (a0 :: a1 :: a2 :: a3 :: a4 :: some x :: r) S) S fun y S1 => augX op x y S1 fun z S2 => nx (a0 :: a1 :: a2 :: a3 :: a4 :: some z :: r) S2) : sxX C (.aug 5 op e) (a0 :: a1 :: a2 :: a3 :: a4 :: some x :: r) S ⟨nx, rt, bk, ct, ex⟩ := st_aug' k rfl
theorem st_a6 {a0 a1 a2 a3 a4 a5 : Option D} {r : Loc} {x : D} {op e} (k : exX C e (a0 :: a1 :: a2 :: a3 :: a4 :: a5 :: some x :: r) (fun x' S => ex x' (a0 :: a1 :: a2 :: a3 :: a4 :: a5 :: some x :: r) S) S fun y S1 => augX op x y S1 fun z S2 => nx (a0 :: a1 :: a2 :: a3 :: a4 :: a5 :: some z :: r) S2) : sxX C (.aug 6 op e) (a0 :: a1 :: a2 :: a3 :: a4 :: a5 :: some x :: r) S ⟨nx, rt, bk, ct, ex⟩ := st_aug' k rfl
theorem st_a7 {a0 a1 a2 a3 a4 a5 a6 : Option D} {r : Loc} {x : D} {op e} (k : exX C e (a0 :: a1 :: a2 :: a3 :: a4 :: a5 :: a6 :: some x :: r) (fun x' S => ex x' (a0 :: a1 :: a2 :: a3 :: a4 :: a5 :: a6 :: some x :: r) S) S fun y S1 => augX op x y S1 fun z S2 => nx (a0 :: a1 :: a2 :: a3 :: a4 :: a5 :: a6 :: some z :: r) S2) : sxX C (.aug 7 op e) (a0 :: a1 :: a2 :: a3 :: a4 :: a5 :: a6 :: some x :: r) S ⟨nx, rt, bk, ct, ex⟩ := st_aug' k rfl
theorem st_a8 {a0 a1 a2 a3 a4 a5 a6 a7 : Option D} {r : Loc} {x : D} {op e} (k : exX C e (a0 :: a1 :: a2 :: a3 :: a4 :: a5 :: a6 :: a7 :: some x :: r) (fun x' S => ex x' (a0 :: a1 :: a2 :: a3 :: a4 :: a5 :: a6 :: a7 :: some x :: r) S) S fun y S1 => augX op x y S1 fun z S2 => nx (a0 :: a1 :: a2 :: a3 :: a4 :: a5 :: a6 :: a7 :: some z :: r) S2) : sxX C (.aug 8 op e) (a0 :: a1 :: a2 :: a3 :: a4 :: a5 :: a6 :: a7 :: some x :: r) S ⟨nx, rt, bk, ct, ex⟩ := st_aug' k rfl
theorem st_a9 {a0 a1 a2 a3 a4 a5 a6 a7 a8 : Option D} {r : Loc} {x : D} {op e} (k : exX C e (a0 :: a1 :: a2 :: a3 :: a4 :: a5 :: a6 :: a7 :: a8 :: some x :: r) (fun x' S => ex x' (a0 :: a1 :: a2 :: a3 :: a4 :: a5 :: a6 :: a7 :: a8 :: some x :: r) S) S fun y S1 => augX op x y S1 fun z S2 => nx (a0 :: a1 :: a2 :: a3 :: a4 :: a5 :: a6 :: a7 :: a8 :: some z :: r) S2) : sxX C (.aug 9 op e) (a0 :: a1 :: a2 :: a3 :: a4 :: a5 :: a6 :: a7 :: a8 :: some x :: r) S ⟨nx, rt, bk, ct, ex⟩ := st_aug' k rfl
theorem st_a10 {a0 a1 a2 a3 a4 a5 a6 a7 a8 a9 : Option D} {r : Loc} {x : D} {op e} (k : exX C e (a0 :: a1 :: a2 :: a3 :: a4 :: a5 :: a6 :: a7 :: a8 :: a9 :: some x :: r) (fun x' S => ex x' (a0 :: a1 :: a2 :: a3 :: a4 :: a5 :: a6 :: a7 :: a8 :: a9 :: some x :: r) S) S fun y S1 => augX op x y S1 fun z S2 => nx (a0 :: a1 :: a2 :: a3 :: a4 :: a5 :: a6 :: a7 :: a8 :: a9 :: some z :: r) S2) : sxX C (.aug 10 op e) (a0 :: a1 :: a2 :: a3 :: a4 :: a5 :: a6 :: a7 :: a8 :: a9 :: some x :: r) S ⟨nx, rt, bk, ct, ex⟩ := st_aug' k rfl
theorem st_a11 {a0 a1 a2 a3 a4 a5 a6 a7 a8 a9 a10 : Option D} {r : Loc} {x : D} {op e} (k : exX C e (a0 :: a1 :: a2 :: a3 :: a4 :: a5 :: a6 :: a7 :: a8 :: a9 :: a10 :: some x :: r) (fun x' S => ex x' (a0 :: a1 :: a2 :: a3 :: a4 :: a5 :: a6 :: a7 :: a8 :: a9 :: a10 :: some x :: r) S) S fun y S1 => augX op x y S1 fun z S2 => nx (a0 :: a1 :: a2 :: a3 :: a4 :: a5 :: a6 :: a7 :: a8 :: a9 :: a10 :: some z :: r) S2) : sxX C (.aug 11 op e) (a0 :: a1 :: a2 :: a3 :: a4 :: a5 :: a6 :: a7 :: a8 :: a9 :: a10 :: some x :: r) S ⟨nx, rt, bk, ct, ex⟩ := st_aug' k rfl
theorem st_a12 {a0 a1 a2 a3 a4 a5 a6 a7 a8 a9 a10 a11 : Option D} {r : Loc} {x : D} {op e} (k : exX C e (a0 :: a1 :: a2 :: a3 :: a4 :: a5 :: a6 :: a7 :: a8 :: a9 :: a10 :: a11 :: some x :: r) (fun x' S => ex x' (a0 :: a1 :: a2 :: a3 :: a4 :: a5 :: a6 :: a7 :: a8 :: a9 :: a10 :: a11 :: some x :: r) S) S fun y S1 => augX op x y S1 fun z S2 => nx (a0 :: a1 :: a2 :: a3 :: a4 :: a5 :: a6 :: a7 :: a8 :: a9 :: a10 :: a11 :: some z :: r) S2) : sxX C (.aug 12 op e) (a0 :: a1 :: a2 :: a3 :: a4 :: a5 :: a6 :: a7 :: a8 :: a9 :: a10 :: a11 :: some x :: r) S ⟨nx, rt, bk, ct, ex⟩ := st_aug' k rfl
theorem st_a13 {a0 a1 a2 a3 a4 a5 a6 a7 a8 a9 a10 a11 a12 : Option D} {r : Loc} {x : D} {op e} (k : exX C e (a0 :: a1 :: a2 :: a3 :: a4 :: a5 :: a6 :: a7 :: a8 :: a9 :: a10 :: a11 :: a12 :: some x :: r) (fun x' S => ex x' (a0 :: a1 :: a2 :: a3 :: a4 :: a5 :: a6 :: a7 :: a8 :: a9 :: a10 :: a11 :: a12 :: some x :: r) S) S fun y S1 => augX op x y S1 fun z S2 => nx (a0 :: a1 :: a2 :: a3 :: a4 :: a5 :: a6 :: a7 :: a8 :: a9 :: a10 :: a11 :: a12 :: some z :: r) S2) : sxX C (.aug 13 op e) (a0 :: a1 :: a2 :: a3 :: a4 :: a5 :: a6 :: a7 :: a8 :: a9 :: a10 :: a11 :: a12 :: some x :: r) S ⟨nx, rt, bk, ct, ex⟩ := st_aug' k rfl
theorem st_a14 {a0 a1 a2 a3 a4 a5 a6 a7 a8 a9 a10 a11 a12 a13 : Option D} {r : Loc} {x : D} {op e} (k : exX C e (a0 :: a1 :: a2 :: a3 :: a4 :: a5 :: a6 :: a7 :: a8 :: a9 :: a10 :: a11 :: a12 :: a13 :: some x :: r) (fun x' S => ex x' (a0 :: a1 :: a2 :: a3 :: a4 :: a5 :: a6 :: a7 :: a8 :: a9 :: a10 :: a11 :: a12 :: a13 :: some x :: r) S) S fun y S1 => augX op x y S1 fun z S2 => nx (a0 :: a1 :: a2 :: a3 :: a4 :: a5 :: a6 :: a7 :: a8 :: a9 :: a10 :: a11 :: a12 :: a13 :: some z :: r) S2) : sxX C (.aug 14 op e) (a0 :: a1 :: a2 :: a3 :: a4 :: a5 :: a6 :: a7 :: a8 :: a9 :: a10 :: a11 :: a12 :: a13 :: some x :: r) S ⟨nx, rt, bk, ct, ex⟩ := st_aug' k rfl
theorem st_a15 {a0 a1 a2 a3 a4 a5 a6 a7 a8 a9 a10 a11 a12 a13 a14 : Option D} {r : Loc} {x : D} {op e} (k : exX C e (a0 :: a1 :: a2 :: a3 :: a4 :: a5 :: a6 :: a7 :: a8 :: a9 :: a10 :: a11 :: a12 :: a13 :: a14 :: some x :: r) (fun x' S => ex x' (a0 :: a1 :: a2 :: a3 :: a4 :: a5 :: a6 :: a7 :: a8 :: a9 :: a10 :: a11 :: a12 :: a13 :: a14 :: some x :: r) S) S fun y S1 => augX op x y S1 fun z S2 => nx (a0 :: a1 :: a2 :: a3 :: a4 :: a5 :: a6 :: a7 :: a8 :: a9 :: a10 :: a11 :: a12 :: a13 :: a14 :: some z :: r) S2) : sxX C (.aug 15 op e) (a0 :: a1 :: a2 :: a3 :: a4 :: a5 :: a6 :: a7 :: a8 :: a9 :: a10 :: a11 :: a12 :: a13 :: a14 :: some x :: r) S ⟨nx, rt, bk, ct, ex⟩ := st_aug' k rfl
theorem st_a16 {a0 a1 a2 a3 a4 a5 a6 a7 a8 a9 a10 a11 a12 a13 a14 a15 : Option D} {r : Loc} {x : D} {op e} (k : exX C e (a0 :: a1 :: a2 :: a3 :: a4 :: a5 :: a6 :: a7 :: a8 :: a9 :: a10 :: a11 :: a12 :: a13 :: a14 :: a15 :: some x :: r) (fun x' S => ex x' (a0 :: a1 :: a2 :: a3 :: a4 :: a5 :: a6 :: a7 :: a8 :: a9 :: a10 :: a11 :: a12 :: a13 :: a14 :: a15 :: some x :: r) S) S fun y S1 => augX op x y S1 fun z S2 => nx (a0 :: a1 :: a2 :: a3 :: a4 :: a5 :: a6 :: a7 :: a8 :: a9 :: a10 :: a11 :: a12 :: a13 :: a14 :: a15 :: some z :: r) S2) : sxX C (.aug 16 op e) (a0 :: a1 :: a2 :: a3 :: a4 :: a5 :: a6 :: a7 :: a8 :: a9 :: a10 :: a11 :: a12 :: a13 :: a14 :: a15 :: some x :: r) S ⟨nx, rt, bk, ct, ex⟩ := st_aug' k rfl
theorem st_a17 {a0 a1 a2 a3 a4 a5 a6 a7 a8 a9 a10 a11 a12 a13 a14 a15 a16 : Option D} {r : Loc} {x : D} {op e} (k : exX C e (a0 :: a1 :: a2 :: a3 :: a4 :: a5 :: a6 :: a7 :: a8 :: a9 :: a10 :: a11 :: a12 :: a13 :: a14 :: a15 :: a16 :: some x :: r) (fun x' S => ex x' (a0 :: a1 :: a2 :: a3 :: a4 :: a5 :: a6 :: a7 :: a8 :: a9 :: a10 :: a11 :: a12 :: a13 :: a14 :: a15 :: a16 :: some x :: r) S) S fun y S1 => augX op x y S1 fun z S2 => nx (a0 :: a1 :: a2 :: a3 :: a4 :: a5 :: a6 :: a7 :: a8 :: a9 :: a10 :: a11 :: a12 :: a13 :: a14 :: a15 :: a16 :: some z :: r) S2) : sxX C (.aug 17 op e) (a0 :: a1 :: a2 :: a3 :: a4 :: a5 :: a6 :: a7 :: a8 :: a9 :: a10 :: a11 :: a12 :: a13 :: a14 :: a15 :: a16 :: some x :: r) S ⟨nx, rt, bk, ct, ex⟩ := st_aug' k rfl
theorem st_a18 {a0 a1 a2 a3 a4 a5 a6 a7 a8 a9 a10 a11 a12 a13 a14 a15 a16 a17 : Option D} {r : Loc} {x : D} {op e} (k : exX C e (a0 :: a1 :: a2 :: a3 :: a4 :: a5 :: a6 :: a7 :: a8 :: a9 :: a10 :: a11 :: a12 :: a13 :: a14 :: a15 :: a16 :: a17 :: some x :: r) (fun x' S => ex x' (a0 :: a1 :: a2 :: a3 :: a4 :: a5 :: a6 :: a7 :: a8 :: a9 :: a10 :: a11 :: a12 :: a13 :: a14 :: a15 :: a16 :: a17 :: some x :: r) S) S fun y S1 => augX op x y S1 fun z S2 => nx (a0 :: a1 :: a2 :: a3 :: a4 :: a5 :: a6 :: a7 :: a8 :: a9 :: a10 :: a11 :: a12 :: a13 :: a14 :: a15 :: a16 :: a17 :: some z :: r) S2) : sxX C (.aug 18 op e) (a0 :: a1 :: a2 :: a3 :: a4 :: a5 :: a6 :: a7 :: a8 :: a9 :: a10 :: a11 :: a12 :: a13 :: a14 :: a15 :: a16 :: a17 :: some x :: r) S ⟨nx, rt, bk, ct, ex⟩ := st_aug' k rfl
theorem st_a19 {a0 a1 a2 a3 a4 a5 a6 a7 a8 a9 a10 a11 a12 a13 a14 a15 a16 a17 a18 : Option D} {r : Loc} {x : D} {op e} (k : exX C e (a0 :: a1 :: a2 :: a3 :: a4 :: a5 :: a6 :: a7 :: a8 :: a9 :: a10 :: a11 :: a12 :: a13 :: a14 :: a15 :: a16 :: a17 :: a18 :: some x :: r) (fun x' S => ex x' (a0 :: a1 :: a2 :: a3 :: a4 :: a5 :: a6 :: a7 :: a8 :: a9 :: a10 :: a11 :: a12 :: a13 :: a14 :: a15 :: a16 :: a17 :: a18 :: some x :: r) S) S fun y S1 => augX op x y S1 fun z S2 => nx (a0 :: a1 :: a2 :: a3 :: a4 :: a5 :: a6 :: a7 :: a8 :: a9 :: a10 :: a11 :: a12 :: a13 :: a14 :: a15 :: a16 :: a17 :: a18 :: some z :: r) S2) : sxX C (.aug 19 op e) (a0 :: a1 :: a2 :: a3 :: a4 :: a5 :: a6 :: a7 :: a8 :: a9 :: a10 :: a11 :: a12 :: a13 :: a14 :: a15 :: a16 :: a17 :: a18 :: some x :: r) S ⟨nx, rt, bk, ct, ex⟩ := st_aug' k rfl
theorem st_a20 {a0 a1 a2 a3 a4 a5 a6 a7 a8 a9 a10 a11 a12 a13 a14 a15 a16 a17 a18 a19 : Option D} {r : Loc} {x : D} {op e} (k : exX C e (a0 :: a1 :: a2 :: a3 :: a4 :: a5 :: a6 :: a7 :: a8 :: a9 :: a10 :: a11 :: a12 :: a13 :: a14 :: a15 :: a16 :: a17 :: a18 :: a19 :: some x :: r) (fun x' S => ex x' (a0 :: a1 :: a2 :: a3 :: a4 :: a5 :: a6 :: a7 :: a8 :: a9 :: a10 :: a11 :: a12 :: a13 :: a14 :: a15 :: a16 :: a17 :: a18 :: a19 :: some x :: r) S) S fun y S1 => augX op x y S1 fun z S2 => nx (a0 :: a1 :: a2 :: a3 :: a4 :: a5 :: a6 :: a7 :: a8 :: a9 :: a10 :: a11 :: a12 :: a13 :: a14 :: a15 :: a16 :: a17 :: a18 :: a19 :: some z :: r) S2) : sxX C (.aug 20 op e) (a0 :: a1 :: a2 :: a3 :: a4 :: a5 :: a6 :: a7 :: a8 :: a9 :: a10 :: a11 :: a12 :: a13 :: a14 :: a15 :: a16 :: a17 :: a18 :: a19 :: some x :: r) S ⟨nx, rt, bk, ct, ex⟩ := st_aug' k rfl
theorem st_a21 {a0 a1 a2 a3 a4 a5 a6 a7 a8 a9 a10 a11 a12 a13 a14 a15 a16 a17 a18 a19 a20 : Option D} {r : Loc} {x : D} {op e} (k : exX C e (a0 :: a1 :: a2 :: a3 :: a4 :: a5 :: a6 :: a7 :: a8 :: a9 :: a10 :: a11 :: a12 :: a13 :: a14 :: a15 :: a16 :: a17 :: a18 :: a19 :: a20 :: some x :: r) (fun x' S => ex x' (a0 :: a1 :: a2 :: a3 :: a4 :: a5 :: a6 :: a7 :: a8 :: a9 :: a10 :: a11 :: a12 :: a13 :: a14 :: a15 :: a16 :: a17 :: a18 :: a19 :: a20 :: some x :: r) S) S fun y S1 => augX op x y S1 fun z S2 => nx (a0 :: a1 :: a2 :: a3 :: a4 :: a5 :: a6 :: a7 :: a8 :: a9 :: a10 :: a11 :: a12 :: a13 :: a14 :: a15 :: a16 :: a17 :: a18 :: a19 :: a20 :: some z :: r) S2) : sxX C (.aug 21 op e) (a0 :: a1 :: a2 :: a3 :: a4 :: a5 :: a6 :: a7 :: a8 :: a9 :: a10 :: a11 :: a12 :: a13 :: a14 :: a15 :: a16 :: a17 :: a18 :: a19 :: a20 :: some x :: r) S ⟨nx, rt, bk, ct, ex⟩ := st_aug' k rfl
theorem st_a22 {a0 a1 a2 a3 a4 a5 a6 a7 a8 a9 a10 a11 a12 a13 a14 a15 a16 a17 a18 a19 a20 a21 : Option D} {r : Loc} {x : D} {op e} (k : exX C e (a0 :: a1 :: a2 :: a3 :: a4 :: a5 :: a6 :: a7 :: a8 :: a9 :: a10 :: a11 :: a12 :: a13 :: a14 :: a15 :: a16 :: a17 :: a18 :: a19 :: a20 :: a21 :: some x :: r) (fun x' S => ex x' (a0 :: a1 :: a2 :: a3 :: a4 :: a5 :: a6 :: a7 :: a8 :: a9 :: a10 :: a11 :: a12 :: a13 :: a14 :: a15 :: a16 :: a17 :: a18 :: a19 :: a20 :: a21 :: some x :: r) S) S fun y S1 => augX op x y S1 fun z S2 => nx (a0 :: a1 :: a2 :: a3 :: a4 :: a5 :: a6 :: a7 :: a8 :: a9 :: a10 :: a11 :: a12 :: a13 :: a14 :: a15 :: a16 :: a17 :: a18 :: a19 :: a20 :: a21 :: some z :: r) S2) : sxX C (.aug 22 op e) (a0 :: a1 :: a2 :: a3 :: a4 :: a5 :: a6 :: a7 :: a8 :: a9 :: a10 :: a11 :: a12 :: a13 :: a14 :: a15 :: a16 :: a17 :: a18 :: a19 :: a20 :: a21 :: some x :: r) S ⟨nx, rt, bk, ct, ex⟩ := st_aug' k rfl
theorem st_a23 {a0 a1 a2 a3 a4 a5 a6 a7 a8 a9 a10 a11 a12 a13 a14 a15 a16 a17 a18 a19 a20 a21 a22 : Option D} {r : Loc} {x : D} {op e} (k : exX C e (a0 :: a1 :: a2 :: a3 :: a4 :: a5 :: a6 :: a7 :: a8 :: a9 :: a10 :: a11 :: a12 :: a13 :: a14 :: a15 :: a16 :: a17 :: a18 :: a19 :: a20 :: a21 :: a22 :: some x :: r) (fun x' S => ex x' (a0 :: a1 :: a2 :: a3 :: a4 :: a5 :: a6 :: a7 :: a8 :: a9 :: a10 :: a11 :: a12 :: a13 :: a14 :: a15 :: a16 :: a17 :: a18 :: a19 :: a20 :: a21 :: a22 :: some x :: r) S) S fun y S1 => augX op x y S1 fun z S2 => nx (a0 :: a1 :: a2 :: a3 :: a4 :: a5 :: a6 :: a7 :: a8 :: a9 :: a10 :: a11 :: a12 :: a13 :: a14 :: a15 :: a16 :: a17 :: a18 :: a19 :: a20 :: a21 :: a22 :: some z :: r) S2) : sxX C (.aug 23 op e) (a0 :: a1 :: a2 :: a3 :: a4 :: a5 :: a6 :: a7 :: a8 :: a9 :: a10 :: a11 :: a12 :: a13 :: a14 :: a15 :: a16 :: a17 :: a18 :: a19 :: a20 :: a21 :: a22 :: some x :: r) S ⟨nx, rt, bk, ct, ex⟩ := st_aug' k rfl
theorem st_augs' {a i op e} (k : exX C a σ (fun x S => ex x σ S) S fun o S1 => exX C i σ (fun x S => ex x σ S) S1 fun k S2 => idxX o k S2 fun x => exX C e σ (fun x S => ex x σ S) S2 fun y S3 => augX op x y S3 fun z S4 => subX o k z S4 fun S5 => nx σ S5) : sxX C (.augs a i op e) σ S ⟨nx, rt, bk, ct, ex⟩ := by
  simp only [exX_eq, exsX_eq, oeX_eq, ocX_eq, itX_eq, sxX_eq, sxsX_eq, binX_eq, cmpX_eq, idxX_eq, bltX_eq, slcX_eq, isiX_eq, rcvX_eq, mthX_eq, tgX_eq, taX_eq, tgsX_eq, forX_eq, lcX_eq, itvX_eq, itlX_eq, zipX_eq, augX_eq, subX_eq, callX_eq, newX_eq, slrX_eq, frX_eq, bkX_eq, bkE_eq, truX_eq, rgX_eq, rg2X_eq, rgdX_eq, rglX_eq, rgtX_eq] at *
  exact k
theorem st_exp' {e} (k : exX C e σ (fun x S => ex x σ S) S fun _ S1 => nx σ S1) : sxX C (.exp e) σ S ⟨nx, rt, bk, ct, ex⟩ := by
  simp only [exX_eq, exsX_eq, oeX_eq, ocX_eq, itX_eq, sxX_eq, sxsX_eq, binX_eq, cmpX_eq, idxX_eq, bltX_eq, slcX_eq, isiX_eq, rcvX_eq, mthX_eq, tgX_eq, taX_eq, tgsX_eq, forX_eq, lcX_eq, itvX_eq, itlX_eq, zipX_eq, augX_eq, subX_eq, callX_eq, newX_eq, slrX_eq, frX_eq, bkX_eq, bkE_eq, truX_eq, rgX_eq, rg2X_eq, rgdX_eq, rglX_eq, rgtX_eq] at *
  exact k
theorem st_ret' {e} (k : exX C e σ (fun x S => ex x σ S) S (frX rt)) : sxX C (.ret e) σ S ⟨nx, rt, bk, ct, ex⟩ := by
  simp only [exX_eq, exsX_eq, oeX_eq, ocX_eq, itX_eq, sxX_eq, sxsX_eq, binX_eq, cmpX_eq, idxX_eq, bltX_eq, slcX_eq, isiX_eq, rcvX_eq, mthX_eq, tgX_eq, taX_eq, tgsX_eq, forX_eq, lcX_eq, itvX_eq, itlX_eq, zipX_eq, augX_eq, subX_eq, callX_eq, newX_eq, slrX_eq, frX_eq, bkX_eq, bkE_eq, truX_eq, rgX_eq, rg2X_eq, rgdX_eq, rglX_eq, rgtX_eq] at *
  exact k
theorem st_retn' (k : rt .non S) : sxX C .retn σ S ⟨nx, rt, bk, ct, ex⟩ := by
  simp only [exX_eq, exsX_eq, oeX_eq, ocX_eq, itX_eq, sxX_eq, sxsX_eq, binX_eq, cmpX_eq, idxX_eq, bltX_eq, slcX_eq, isiX_eq, rcvX_eq, mthX_eq, tgX_eq, taX_eq, tgsX_eq, forX_eq, lcX_eq, itvX_eq, itlX_eq, zipX_eq, augX_eq, subX_eq, callX_eq, newX_eq, slrX_eq, frX_eq, bkX_eq, bkE_eq, truX_eq, rgX_eq, rg2X_eq, rgdX_eq, rglX_eq, rgtX_eq] at *
  exact k
theorem st_if' {c a b} (k : exX C c σ (fun x S => ex x σ S) S fun x S1 => truX S1 x fun k => if k = true then sxsX C a σ S1 ⟨nx, rt, bk, ct, ex⟩ else sxsX C b σ S1 ⟨nx, rt, bk, ct, ex⟩) : sxX C (.iff c a b) σ S ⟨nx, rt, bk, ct, ex⟩ := by
  simp only [exX_eq, exsX_eq, oeX_eq, ocX_eq, itX_eq, sxX_eq, sxsX_eq, binX_eq, cmpX_eq, idxX_eq, bltX_eq, slcX_eq, isiX_eq, rcvX_eq, mthX_eq, tgX_eq, taX_eq, tgsX_eq, forX_eq, lcX_eq, itvX_eq, itlX_eq, zipX_eq, augX_eq, subX_eq, callX_eq, newX_eq, slrX_eq, frX_eq, bkX_eq, bkE_eq, truX_eq, rgX_eq, rg2X_eq, rgdX_eq, rglX_eq, rgtX_eq] at *
  exact k
theorem st_brk' (k : bk σ S) : sxX C .brk σ S ⟨nx, rt, bk, ct, ex⟩ := by
  simp only [exX_eq, exsX_eq, oeX_eq, ocX_eq, itX_eq, sxX_eq, sxsX_eq, binX_eq, cmpX_eq, idxX_eq, bltX_eq, slcX_eq, isiX_eq, rcvX_eq, mthX_eq, tgX_eq, taX_eq, tgsX_eq, forX_eq, lcX_eq, itvX_eq, itlX_eq, zipX_eq, augX_eq, subX_eq, callX_eq, newX_eq, slrX_eq, frX_eq, bkX_eq, bkE_eq, truX_eq, rgX_eq, rg2X_eq, rgdX_eq, rglX_eq, rgtX_eq] at *
  exact k
theorem st_cnt' (k : ct σ S) : sxX C .cnt σ S ⟨nx, rt, bk, ct, ex⟩ := by
  simp only [exX_eq, exsX_eq, oeX_eq, ocX_eq, itX_eq, sxX_eq, sxsX_eq, binX_eq, cmpX_eq, idxX_eq, bltX_eq, slcX_eq, isiX_eq, rcvX_eq, mthX_eq, tgX_eq, taX_eq, tgsX_eq, forX_eq, lcX_eq, itvX_eq, itlX_eq, zipX_eq, augX_eq, subX_eq, callX_eq, newX_eq, slrX_eq, frX_eq, bkX_eq, bkE_eq, truX_eq, rgX_eq, rg2X_eq, rgdX_eq, rglX_eq, rgtX_eq] at *
  exact k
theorem st_pss' (k : nx σ S) : sxX C .pss σ S ⟨nx, rt, bk, ct, ex⟩ := by
  simp only [exX_eq, exsX_eq, oeX_eq, ocX_eq, itX_eq, sxX_eq, sxsX_eq, binX_eq, cmpX_eq, idxX_eq, bltX_eq, slcX_eq, isiX_eq, rcvX_eq, mthX_eq, tgX_eq, taX_eq, tgsX_eq, forX_eq, lcX_eq, itvX_eq, itlX_eq, zipX_eq, augX_eq, subX_eq, callX_eq, newX_eq, slrX_eq, frX_eq, bkX_eq, bkE_eq, truX_eq, rgX_eq, rg2X_eq, rgdX_eq, rglX_eq, rgtX_eq] at *
  exact k
/-- what a statement reaches, told once -/
theorem st_cut {s} (Q : Loc → Sto → Prop) (h : ∀ nx' : Loc → Sto → Prop, (∀ σ' S', Q σ' S' → nx' σ' S') → sxX C s σ S ⟨nx', rt, bk, ct, ex⟩) (h2 : ∀ σ' S', Q σ' S' → nx σ' S') : sxX C s σ S ⟨nx, rt, bk, ct, ex⟩ := by
  simp only [exX_eq, exsX_eq, oeX_eq, ocX_eq, itX_eq, sxX_eq, sxsX_eq, binX_eq, cmpX_eq, idxX_eq, bltX_eq, slcX_eq, isiX_eq, rcvX_eq, mthX_eq, tgX_eq, taX_eq, tgsX_eq, forX_eq, lcX_eq, itvX_eq, itlX_eq, zipX_eq, augX_eq, subX_eq, callX_eq, newX_eq, slrX_eq, frX_eq, bkX_eq, bkE_eq, truX_eq, rgX_eq, rg2X_eq, rgdX_eq, rglX_eq, rgtX_eq] at *
  exact h nx h2
/-- while, by an invariant and a measure -/
theorem st_whl' {c b} (W : Nat → Loc → Sto → Prop) (m : Nat) (h0 : W m σ S)
    (st : ∀ m σ S, W m σ S → exX C c σ (fun x S => ex x σ S) S fun x S1 => truX S1 x fun k => if k = true then sxsX C b σ S1 ⟨fun σ' S' => ∃ m', m' < m ∧ W m' σ' S', rt, nx, fun σ' S' => ∃ m', m' < m ∧ W m' σ' S', ex⟩ else nx σ S1) :
    sxX C (.whl c b) σ S ⟨nx, rt, bk, ct, ex⟩ := by
  simp only [exX_eq, exsX_eq, oeX_eq, ocX_eq, itX_eq, sxX_eq, sxsX_eq, binX_eq, cmpX_eq, idxX_eq, bltX_eq, slcX_eq, isiX_eq, rcvX_eq, mthX_eq, tgX_eq, taX_eq, tgsX_eq, forX_eq, lcX_eq, itvX_eq, itlX_eq, zipX_eq, augX_eq, subX_eq, callX_eq, newX_eq, slrX_eq, frX_eq, bkX_eq, bkE_eq, truX_eq, rgX_eq, rg2X_eq, rgdX_eq, rglX_eq, rgtX_eq] at *
  exact ⟨W, ⟨m, h0⟩, st⟩
theorem st_for' {tg it b} (k : itX C it σ (fun x S => ex x σ S) S fun l chk S1 => forX chk (fun d σ S K => tgX tg d σ fun σ' => sxsX C b σ' S ⟨K, rt, nx, K, ex⟩) l σ S1 nx) : sxX C (.for tg it b) σ S ⟨nx, rt, bk, ct, ex⟩ := by
  simp only [exX_eq, exsX_eq, oeX_eq, ocX_eq, itX_eq, sxX_eq, sxsX_eq, binX_eq, cmpX_eq, idxX_eq, bltX_eq, slcX_eq, isiX_eq, rcvX_eq, mthX_eq, tgX_eq, taX_eq, tgsX_eq, forX_eq, lcX_eq, itvX_eq, itlX_eq, zipX_eq, augX_eq, subX_eq, callX_eq, newX_eq, slrX_eq, frX_eq, bkX_eq, bkE_eq, truX_eq, rgX_eq, rg2X_eq, rgdX_eq, rglX_eq, rgtX_eq] at *
  exact k
theorem st_rse' {c fs fm es} (k : exsX C es σ (fun x S => ex x σ S) S fun l S1 => l.length = fs.length ∧ (fm = true → l.all fmtD = true) ∧ ex ⟨c, fs.zip l⟩ σ S1) : sxX C (.rse c fs fm es) σ S ⟨nx, rt, bk, ct, ex⟩ := by
  simp only [exX_eq, exsX_eq, oeX_eq, ocX_eq, itX_eq, sxX_eq, sxsX_eq, binX_eq, cmpX_eq, idxX_eq, bltX_eq, slcX_eq, isiX_eq, rcvX_eq, mthX_eq, tgX_eq, taX_eq, tgsX_eq, forX_eq, lcX_eq, itvX_eq, itlX_eq, zipX_eq, augX_eq, subX_eq, callX_eq, newX_eq, slrX_eq, frX_eq, bkX_eq, bkE_eq, truX_eq, rgX_eq, rg2X_eq, rgdX_eq, rglX_eq, rgtX_eq] at *
  exact k
theorem st_tryA' {b c i h cs} (k : sxsX C b σ S ⟨nx, rt, bk, ct, fun x σ' S' => x.cls ∈ cs ∧ asW x c i h σ' S' ⟨nx, rt, bk, ct, ex⟩⟩) : sxX C (.tryA b c i h cs) σ S ⟨nx, rt, bk, ct, ex⟩ := by
  simp only [exX_eq, exsX_eq, oeX_eq, ocX_eq, itX_eq, sxX_eq, sxsX_eq, binX_eq, cmpX_eq, idxX_eq, bltX_eq, slcX_eq, isiX_eq, rcvX_eq, mthX_eq, tgX_eq, taX_eq, tgsX_eq, forX_eq, lcX_eq, itvX_eq, itlX_eq, zipX_eq, augX_eq, subX_eq, callX_eq, newX_eq, slrX_eq, frX_eq, bkX_eq, bkE_eq, truX_eq, rgX_eq, rg2X_eq, rgdX_eq, rglX_eq, rgtX_eq] at *
  exact k
theorem st_tryO' {b hs cs} (k : sxsX C b σ S ⟨nx, rt, bk, ct, fun x σ' S' => x.cls ∈ cs ∧ hdsW x σ' S' ⟨nx, rt, bk, ct, ex⟩ hs⟩) : sxX C (.tryO b hs cs) σ S ⟨nx, rt, bk, ct, ex⟩ := by
  simp only [exX_eq, exsX_eq, oeX_eq, ocX_eq, itX_eq, sxX_eq, sxsX_eq, binX_eq, cmpX_eq, idxX_eq, bltX_eq, slcX_eq, isiX_eq, rcvX_eq, mthX_eq, tgX_eq, taX_eq, tgsX_eq, forX_eq, lcX_eq, itvX_eq, itlX_eq, zipX_eq, augX_eq, subX_eq, callX_eq, newX_eq, slrX_eq, frX_eq, bkX_eq, bkE_eq, truX_eq, rgX_eq, rg2X_eq, rgdX_eq, rglX_eq, rgtX_eq] at *
  exact k
end
/-- for, by an invariant -/
theorem for_inv {chk : Sto → Prop} {body : D → Loc → Sto → (Loc → Sto → Prop) → Prop} {l : List D} {K : Loc → Sto → Prop} (I : Nat → Loc → Sto → Prop) (h0 : I 0 σ S) (hc : ∀ i σ S, i ≤ l.length → I i σ S → chk S)
    (st : ∀ i σ S K, ∀ h : i < l.length, I i σ S → (∀ σ' S', I (i + 1) σ' S' → K σ' S') → body l[i] σ S K) (hd : ∀ σ S, I l.length σ S → K σ S) : forX chk body l σ S K := by
  simp only [exX_eq, exsX_eq, oeX_eq, ocX_eq, itX_eq, sxX_eq, sxsX_eq, binX_eq, cmpX_eq, idxX_eq, bltX_eq, slcX_eq, isiX_eq, rcvX_eq, mthX_eq, tgX_eq, taX_eq, tgsX_eq, forX_eq, lcX_eq, itvX_eq, itlX_eq, zipX_eq, augX_eq, subX_eq, callX_eq, newX_eq, slrX_eq, frX_eq, bkX_eq, bkE_eq, truX_eq, rgX_eq, rg2X_eq, rgdX_eq, rglX_eq, rgtX_eq] at *
  have go : ∀ n i σ S, n = l.length - i → i ≤ l.length → I i σ S → forW chk body (l.drop i) σ S K := fun n => by
    induction n with
    | zero =>
      intro i σ S hn hi h
      have e : i = l.length := by omega
      subst e
      rw [List.drop_length]
      exact ⟨hc _ σ S (Nat.le_refl _) h, hd σ S h⟩
    | succ n ih =>
      intro i σ S hn hi h
      have hlt : i < l.length := by omega
      rw [List.drop_eq_getElem_cons hlt]
      exact ⟨hc _ σ S hi h, st i σ S _ hlt h fun σ' S' h' => ih (i + 1) σ' S' (by omega) hlt h'⟩
  have q := go _ 0 σ S rfl (Nat.zero_le _) h0
  rwa [List.drop_zero] at q
/-- for over known items, by an invariant of what went by -/
theorem for_mapC {α : Type} {f : α → D} {l : List α} {chk : Sto → Prop} {body : D → Loc → Sto → (Loc → Sto → Prop) → Prop} {K : Loc → Sto → Prop} (I : List α → Loc → Sto → Prop) (h0 : I [] σ S) (hc : ∀ a σ S, I a σ S → chk S)
    (st : ∀ a x b σ S K, l = a ++ x :: b → I a σ S → (∀ σ' S', I (a ++ [x]) σ' S' → K σ' S') → body (f x) σ S K) (hd : ∀ σ S, I l σ S → K σ S) : forX chk body (l.map f) σ S K := by
  have go : ∀ (b a : List α) σ S, l = a ++ b → I a σ S → forX chk body (b.map f) σ S K := fun b => by
    induction b with
    | nil =>
      intro a σ S e h
      rw [List.append_nil] at e
      subst e
      exact fw_nil (hc _ _ _ h) (hd σ S h)
    | cons x b ih =>
      intro a σ S e h
      exact fw_cons (hc _ _ _ h) (st a x b σ S _ e h fun σ' S' h' => ih (a ++ [x]) σ' S' (by rw [e]; simp) h')
  exact go l [] σ S rfl h0
theorem for_map {α : Type} {f : α → D} {l : List α} {body : D → Loc → Sto → (Loc → Sto → Prop) → Prop} {K : Loc → Sto → Prop} (I : List α → Loc → Sto → Prop) (h0 : I [] σ S)
    (st : ∀ a x b σ S K, l = a ++ x :: b → I a σ S → (∀ σ' S', I (a ++ [x]) σ' S' → K σ' S') → body (f x) σ S K) (hd : ∀ σ S, I l σ S → K σ S) : forX (fun _ => True) body (l.map f) σ S K :=
  for_mapC I h0 (fun _ _ _ _ => trivial) st hd
theorem for_lst {l : List D} {chk : Sto → Prop} {body : D → Loc → Sto → (Loc → Sto → Prop) → Prop} {K : Loc → Sto → Prop} (I : List D → Loc → Sto → Prop) (h0 : I [] σ S) (hc : ∀ a σ S, I a σ S → chk S)
    (st : ∀ a x b σ S K, l = a ++ x :: b → I a σ S → (∀ σ' S', I (a ++ [x]) σ' S' → K σ' S') → body x σ S K) (hd : ∀ σ S, I l σ S → K σ S) : forX chk body l σ S K := by
  have q := for_mapC (f := id) (l := l) I h0 hc st hd
  rwa [List.map_id] at q
/-- for over numbered items -/
theorem for_enum {α : Type} {f : α → D} {l : List α} {body : D → Loc → Sto → (Loc → Sto → Prop) → Prop} {K : Loc → Sto → Prop} (I : List α → Loc → Sto → Prop) (h0 : I [] σ S)
    (st : ∀ a x b σ S K, l = a ++ x :: b → I a σ S → (∀ σ' S', I (a ++ [x]) σ' S' → K σ' S') → body (.tpu [.int (a.length : Nat), f x]) σ S K) (hd : ∀ σ S, I l σ S → K σ S) :
    forX (fun _ => True) body (((l.map f).zipIdx).map fun p => .tpu [.int p.2, p.1]) σ S K := by
  have go : ∀ (b a : List α) σ S, l = a ++ b → I a σ S → forX (fun _ => True) body (((b.map f).zipIdx a.length).map fun p => .tpu [.int p.2, p.1]) σ S K := fun b => by
    induction b with
    | nil =>
      intro a σ S e h
      rw [List.append_nil] at e
      subst e
      exact fw_nil trivial (hd σ S h)
    | cons x b ih =>
      intro a σ S e h
      rw [List.map_cons, List.zipIdx_cons, List.map_cons]
      refine fw_cons trivial (st a x b σ S _ e h fun σ' S' h' => ?_)
      have := ih (a ++ [x]) σ' S' (by rw [e]; simp) h'
      rwa [List.length_append, List.length_singleton] at this
  exact go l [] σ S rfl h0
/-- for over a range -/
theorem for_range {n : Nat} {f : Nat → D} {body : D → Loc → Sto → (Loc → Sto → Prop) → Prop} {K : Loc → Sto → Prop} (I : Nat → Loc → Sto → Prop) (h0 : I 0 σ S)
    (st : ∀ i σ S K, i < n → I i σ S → (∀ σ' S', I (i + 1) σ' S' → K σ' S') → body (f i) σ S K) (hd : ∀ σ S, I n σ S → K σ S) : forX (fun _ => True) body ((List.range n).map f) σ S K := by
  refine for_inv I h0 (fun _ _ _ _ _ => trivial) (fun i σ S K h hi k => ?_) fun σ S h => ?_
  · have h' : i < n := by simpa using h
    have e : ((List.range n).map f)[i] = f i := by simp
    rw [e]
    exact st i σ S K h' hi k
  · rw [List.length_map, List.length_range] at h
    exact hd σ S h
/-- a comprehension, by an invariant of what went by -/
theorem lc_invC {α : Type} {f : α → D} {l : List α} {chk : Sto → Prop} {turn : D → Sto → (Option D → Sto → Prop) → Prop} {K : List D → Sto → Prop} (I : List α → List D → Sto → Prop) (hz : l.length ≤ line) (h0 : I [] [] S) (hc : ∀ a o S, I a o S → chk S) (hl : ∀ a o S, I a o S → o.length ≤ a.length)
    (st : ∀ a x b o S Kt, l = a ++ x :: b → I a o S → (∀ y S', I (a ++ [x]) (o ++ [y]) S' → Kt (some y) S') → (∀ S', I (a ++ [x]) o S' → Kt none S') → turn (f x) S Kt) (hd : ∀ o S, I l o S → K o S) : lcX chk turn (l.map f) [] S K := by
  simp only [exX_eq, exsX_eq, oeX_eq, ocX_eq, itX_eq, sxX_eq, sxsX_eq, binX_eq, cmpX_eq, idxX_eq, bltX_eq, slcX_eq, isiX_eq, rcvX_eq, mthX_eq, tgX_eq, taX_eq, tgsX_eq, forX_eq, lcX_eq, itvX_eq, itlX_eq, zipX_eq, augX_eq, subX_eq, callX_eq, newX_eq, slrX_eq, frX_eq, bkX_eq, bkE_eq, truX_eq, rgX_eq, rg2X_eq, rgdX_eq, rglX_eq, rgtX_eq] at *
  have go : ∀ (b a : List α) o S, l = a ++ b → I a o S → lcW chk turn (b.map f) o S K := fun b => by
    induction b with
    | nil =>
      intro a o S e h
      rw [List.append_nil] at e
      subst e
      exact ⟨hc _ _ _ h, hd o S h⟩
    | cons x b ih =>
      intro a o S e h
      refine ⟨hc _ _ _ h, st a x b o S _ e h (fun y S' h' => ⟨?_, ih (a ++ [x]) _ S' (by rw [e]; simp) h'⟩) fun S' h' => ih (a ++ [x]) o S' (by rw [e]; simp) h'⟩
      have := hl a o S h
      have e2 : l.length = a.length + (b.length + 1) := by rw [e]; simp
      omega
  exact go l [] [] S rfl h0
/-- .. of pure parts -/
theorem lc_fmC {α : Type} {f : α → D} {l : List α} {chk : Sto → Prop} {turn : D → Sto → (Option D → Sto → Prop) → Prop} {K : List D → Sto → Prop} (p : α → Bool) (g : α → D) (hc : chk S) (hz : l.length ≤ line)
    (st : ∀ x ∈ l, ∀ Kt : Option D → Sto → Prop, (if p x = true then Kt (some (g x)) S else Kt none S) → turn (f x) S Kt) (hd : K ((l.filter p).map g) S) : lcX chk turn (l.map f) [] S K := by
  refine lc_invC (fun a o T => T = S ∧ o = (a.filter p).map g) hz ⟨rfl, rfl⟩ (fun _ _ _ h => by rw [h.1]; exact hc) (fun a o T h => ?_) (fun a x b o T Kt e h k1 k2 => ?_) fun o T h => ?_
  · rw [h.2, List.length_map]; exact List.length_filter_le p a
  · obtain ⟨rfl, rfl⟩ := h
    refine st x (by rw [e]; simp) Kt ?_
    cases hp : p x with
    | true => exact k1 _ _ ⟨rfl, by simp [hp]⟩
    | false => exact k2 _ ⟨rfl, by simp [hp]⟩
  · obtain ⟨rfl, rfl⟩ := h
    exact hd
theorem lc_mC {α : Type} {f : α → D} {l : List α} {chk : Sto → Prop} {turn : D → Sto → (Option D → Sto → Prop) → Prop} {K : List D → Sto → Prop} (g : α → D) (hc : chk S) (hz : l.length ≤ line)
    (st : ∀ x ∈ l, ∀ Kt : Option D → Sto → Prop, Kt (some (g x)) S → turn (f x) S Kt) (hd : K (l.map g) S) : lcX chk turn (l.map f) [] S K := by
  refine lc_fmC (fun _ => true) g hc hz (fun x hx Kt h => st x hx Kt h) ?_
  rw [List.filter_eq_self.2 fun _ _ => rfl]
  exact hd
theorem lc_fm {α : Type} {f : α → D} {l : List α} {turn : D → Sto → (Option D → Sto → Prop) → Prop} {K : List D → Sto → Prop} (p : α → Bool) (g : α → D) (hz : l.length ≤ line)
    (st : ∀ x ∈ l, ∀ Kt : Option D → Sto → Prop, (if p x = true then Kt (some (g x)) S else Kt none S) → turn (f x) S Kt) (hd : K ((l.filter p).map g) S) : lcX (fun _ => True) turn (l.map f) [] S K := by
  refine lc_invC (fun a o T => T = S ∧ o = (a.filter p).map g) hz ⟨rfl, rfl⟩ (fun _ _ _ _ => trivial) (fun a o T h => ?_) (fun a x b o T Kt e h k1 k2 => ?_) fun o T h => ?_
  · rw [h.2, List.length_map]; exact List.length_filter_le p a
  · obtain ⟨rfl, rfl⟩ := h
    refine st x (by rw [e]; simp) Kt ?_
    cases hp : p x with
    | true => exact k1 _ _ ⟨rfl, by simp [hp]⟩
    | false => exact k2 _ ⟨rfl, by simp [hp]⟩
  · obtain ⟨rfl, rfl⟩ := h
    exact hd
theorem lc_m {α : Type} {f : α → D} {l : List α} {turn : D → Sto → (Option D → Sto → Prop) → Prop} {K : List D → Sto → Prop} (g : α → D) (hz : l.length ≤ line)
    (st : ∀ x ∈ l, ∀ Kt : Option D → Sto → Prop, Kt (some (g x)) S → turn (f x) S Kt) (hd : K (l.map g) S) : lcX (fun _ => True) turn (l.map f) [] S K := by
  refine lc_fm (fun _ => true) g hz (fun x hx Kt h => st x hx Kt h) ?_
  rw [List.filter_eq_self.2 fun _ _ => rfl]
  exact hd
/-- .. over numbered items -/
theorem lc_fme {α : Type} {f : α → D} {l : List α} {turn : D → Sto → (Option D → Sto → Prop) → Prop} {K : List D → Sto → Prop} (p : α × Nat → Bool) (g : α × Nat → D) (hz : l.length ≤ line)
    (st : ∀ x ∈ l.zipIdx, ∀ Kt : Option D → Sto → Prop, (if p x = true then Kt (some (g x)) S else Kt none S) → turn (.tpu [.int (x.2 : Nat), f x.1]) S Kt) (hd : K ((l.zipIdx.filter p).map g) S) : lcX (fun _ => True) turn (((l.map f).zipIdx).map fun p => .tpu [.int p.2, p.1]) [] S K := by
  have e : ((l.map f).zipIdx).map (fun p => D.tpu [.int p.2, p.1]) = l.zipIdx.map fun x => .tpu [.int (x.2 : Nat), f x.1] := by
    rw [List.zipIdx_map, List.map_map]
    rfl
  rw [e]
  exact lc_fm p g (by rw [List.length_zipIdx]; exact hz) st hd
/-! a def's call -/
def mt : Sto := fun _ => none
theorem mrg_self (S S' : Sto) : mrg S S S' = S' := by
  funext a
  unfold mrg
  cases S a <;> rfl
theorem mrg_mt (S : Sto) : mrg S mt mt = S := by
  funext a
  unfold mrg mt
  cases S a <;> rfl
/-- a call; S0 is what the def may know of the store -/
theorem call_in {P : Prog} {n : Nat} {f : Str} {np nn : Nat} {body : Sxs} {as : List D} {σ : Loc} (S0 : Sto) (sb : Sub S0 S) (hf : P f = some ⟨np, nn, body⟩) (hl : as.length = np) (hs : σ = as.map some ++ List.replicate (nn - np) none)
    (k : sxsX (callC P n) body σ S0 ⟨fun _ S' => bkX S S0 K .non S', bkX S S0 K, fun _ _ => False, fun _ _ => False, fun x _ S' => bkE S S0 E x S'⟩) :
    callX P (n + 1) f as S K E := by
  simp only [exX_eq, exsX_eq, oeX_eq, ocX_eq, itX_eq, sxX_eq, sxsX_eq, binX_eq, cmpX_eq, idxX_eq, bltX_eq, slcX_eq, isiX_eq, rcvX_eq, mthX_eq, tgX_eq, taX_eq, tgsX_eq, forX_eq, lcX_eq, itvX_eq, itlX_eq, zipX_eq, augX_eq, subX_eq, callX_eq, newX_eq, slrX_eq, frX_eq, bkX_eq, bkE_eq, truX_eq, rgX_eq, rg2X_eq, rgdX_eq, rglX_eq, rgtX_eq] at *
  show (match P f with | some d => bodyW (callC P n) d as S K E | none => False)
  rw [hf]
  subst hs
  exact ⟨hl, S0, sb, k⟩
/-- .. of a def that needs nothing of the store -/
theorem call_mt {P : Prog} {n : Nat} {f : Str} {np nn : Nat} {body : Sxs} {as : List D} {σ : Loc} (hf : P f = some ⟨np, nn, body⟩) (hl : as.length = np) (hs : σ = as.map some ++ List.replicate (nn - np) none)
    (k : sxsX (callC P n) body σ mt ⟨fun _ S' => bkX S mt K .non S', bkX S mt K, fun _ _ => False, fun _ _ => False, fun x _ S' => bkE S mt E x S'⟩) : callX P (n + 1) f as S K E :=
  call_in mt (fun _ _ h => nomatch h) hf hl hs k
/-- .. with the store in sight -/
theorem call_of {P : Prog} {n : Nat} {f : Str} {np nn : Nat} {body : Sxs} {as : List D} {σ : Loc} (hf : P f = some ⟨np, nn, body⟩) (hl : as.length = np) (hs : σ = as.map some ++ List.replicate (nn - np) none)
    (k : sxsX (callC P n) body σ S ⟨fun _ S' => bkX S S K .non S', bkX S S K, fun _ _ => False, fun _ _ => False, fun x _ S' => bkE S S E x S'⟩) : callX P (n + 1) f as S K E :=
  call_in S (fun _ _ h => h) hf hl hs k
theorem bk_mt {x : D} {S' : Sto} (k : K x S) : bkX S mt K x S' := by
  simp only [exX_eq, exsX_eq, oeX_eq, ocX_eq, itX_eq, sxX_eq, sxsX_eq, binX_eq, cmpX_eq, idxX_eq, bltX_eq, slcX_eq, isiX_eq, rcvX_eq, mthX_eq, tgX_eq, taX_eq, tgsX_eq, forX_eq, lcX_eq, itvX_eq, itlX_eq, zipX_eq, augX_eq, subX_eq, callX_eq, newX_eq, slrX_eq, frX_eq, bkX_eq, bkE_eq, truX_eq, rgX_eq, rg2X_eq, rgdX_eq, rglX_eq, rgtX_eq] at *
  exact ⟨mt, (fun _ _ h => nomatch h), by rw [mrg_mt]; exact k⟩
theorem bk_of {x : D} {S' T : Sto} (h : Sub T S') (k : K x T) : bkX S S K x S' := by
  simp only [exX_eq, exsX_eq, oeX_eq, ocX_eq, itX_eq, sxX_eq, sxsX_eq, binX_eq, cmpX_eq, idxX_eq, bltX_eq, slcX_eq, isiX_eq, rcvX_eq, mthX_eq, tgX_eq, taX_eq, tgsX_eq, forX_eq, lcX_eq, itvX_eq, itlX_eq, zipX_eq, augX_eq, subX_eq, callX_eq, newX_eq, slrX_eq, frX_eq, bkX_eq, bkE_eq, truX_eq, rgX_eq, rg2X_eq, rgdX_eq, rglX_eq, rgtX_eq] at *
  exact ⟨T, h, by rw [mrg_self]; exact k⟩
theorem bk_self {x : D} {S' : Sto} (k : K x S') : bkX S S K x S' := bk_of (fun _ _ h => h) k
theorem be_mt {x : Xc} {S' : Sto} (k : E x S) : bkE S mt E x S' := by
  simp only [exX_eq, exsX_eq, oeX_eq, ocX_eq, itX_eq, sxX_eq, sxsX_eq, binX_eq, cmpX_eq, idxX_eq, bltX_eq, slcX_eq, isiX_eq, rcvX_eq, mthX_eq, tgX_eq, taX_eq, tgsX_eq, forX_eq, lcX_eq, itvX_eq, itlX_eq, zipX_eq, augX_eq, subX_eq, callX_eq, newX_eq, slrX_eq, frX_eq, bkX_eq, bkE_eq, truX_eq, rgX_eq, rg2X_eq, rgdX_eq, rglX_eq, rgtX_eq] at *
  exact ⟨mt, (fun _ _ h => nomatch h), by rw [mrg_mt]; exact k⟩
theorem be_of {x : Xc} {S' T : Sto} (h : Sub T S') (k : E x T) : bkE S S E x S' := by
  simp only [exX_eq, exsX_eq, oeX_eq, ocX_eq, itX_eq, sxX_eq, sxsX_eq, binX_eq, cmpX_eq, idxX_eq, bltX_eq, slcX_eq, isiX_eq, rcvX_eq, mthX_eq, tgX_eq, taX_eq, tgsX_eq, forX_eq, lcX_eq, itvX_eq, itlX_eq, zipX_eq, augX_eq, subX_eq, callX_eq, newX_eq, slrX_eq, frX_eq, bkX_eq, bkE_eq, truX_eq, rgX_eq, rg2X_eq, rgdX_eq, rglX_eq, rgtX_eq] at *
  exact ⟨T, h, by rw [mrg_self]; exact k⟩
/-- an object that the def does not know stays -/
theorem call_fr {P : Prog} {n : Nat} {f : Str} {as : List D} {p : Nat} {o : AO} (hp : S p = none) (k : callX P n f as S (fun x S' => K x (put S' p o)) (fun x S' => E x (put S' p o))) : callX P n f as (put S p o) K E := by
  simp only [exX_eq, exsX_eq, oeX_eq, ocX_eq, itX_eq, sxX_eq, sxsX_eq, binX_eq, cmpX_eq, idxX_eq, bltX_eq, slcX_eq, isiX_eq, rcvX_eq, mthX_eq, tgX_eq, taX_eq, tgsX_eq, forX_eq, lcX_eq, itvX_eq, itlX_eq, zipX_eq, augX_eq, subX_eq, callX_eq, newX_eq, slrX_eq, frX_eq, bkX_eq, bkE_eq, truX_eq, rgX_eq, rg2X_eq, rgdX_eq, rglX_eq, rgtX_eq] at *
  cases n with
  | zero => exact k.elim
  | succ n =>
    have k : (match P f with | some d => bodyW (callC P n) d as S (fun x S' => K x (put S' p o)) (fun x S' => E x (put S' p o)) | none => False) := k
    show (match P f with | some d => bodyW (callC P n) d as (put S p o) K E | none => False)
    cases hf : P f with
    | none => rw [hf] at k; exact k
    | some d =>
      rw [hf] at k
      obtain ⟨hl, S0, sb, k⟩ := k
      have h0 : S0 p = none := by
        cases q : S0 p with
        | none => rfl
        | some u => rw [sb p u q] at hp; cases hp
      have em : ∀ S', mrg (put S p o) S0 S' = put (mrg S S0 S') p o := fun S' => by
        funext a
        unfold mrg put
        by_cases h : a = p
        · subst h; simp only [if_pos, h0]
        · simp only [if_neg h]
      refine ⟨hl, S0, fun a u e => ?_, ?_⟩
      · unfold put
        rw [if_neg (by rintro rfl; rw [h0] at e; cases e)]
        exact sb a u e
      · simpa only [em] using k
/-- the store with a part that stands by itself laid over it -/
def ovr (F S : Sto) : Sto := fun a => match F a with
  | some o => some o
  | none => S a
theorem ovr_put {F : Sto} {p : Nat} {o : AO} : put (ovr F S) p o = ovr (put F p o) S := by
  funext a
  unfold ovr put
  by_cases h : a = p
  · simp only [if_pos h]
  · simp only [if_neg h]
theorem ovr_some {F : Sto} {p : Nat} {o : AO} (h : F p = some o) : ovr F S p = some o := by unfold ovr; rw [h]
theorem ovr_none {F : Sto} {p : Nat} (h : F p = none) : ovr F S p = S p := by unfold ovr; rw [h]
theorem ovr_mt : ovr mt S = S := rfl
theorem call_ovr {P : Prog} {n : Nat} {f : Str} {as : List D} {F : Sto} (hF : ∀ a o, F a = some o → S a = none) (k : callX P n f as S (fun x S' => K x (ovr F S')) (fun x S' => E x (ovr F S'))) : callX P n f as (ovr F S) K E := by
  simp only [exX_eq, exsX_eq, oeX_eq, ocX_eq, itX_eq, sxX_eq, sxsX_eq, binX_eq, cmpX_eq, idxX_eq, bltX_eq, slcX_eq, isiX_eq, rcvX_eq, mthX_eq, tgX_eq, taX_eq, tgsX_eq, forX_eq, lcX_eq, itvX_eq, itlX_eq, zipX_eq, augX_eq, subX_eq, callX_eq, newX_eq, slrX_eq, frX_eq, bkX_eq, bkE_eq, truX_eq, rgX_eq, rg2X_eq, rgdX_eq, rglX_eq, rgtX_eq] at *
  cases n with
  | zero => exact k.elim
  | succ n =>
    have k : (match P f with | some d => bodyW (callC P n) d as S (fun x S' => K x (ovr F S')) (fun x S' => E x (ovr F S')) | none => False) := k
    show (match P f with | some d => bodyW (callC P n) d as (ovr F S) K E | none => False)
    cases hf : P f with
    | none => rw [hf] at k; exact k
    | some d =>
      rw [hf] at k
      obtain ⟨hl, S0, sb, k⟩ := k
      have h0 : ∀ a o, F a = some o → S0 a = none := fun a o e => by
        cases q : S0 a with
        | none => rfl
        | some u => have := sb a u q; rw [hF a o e] at this; cases this
      have em : ∀ S', mrg (ovr F S) S0 S' = ovr F (mrg S S0 S') := fun S' => by
        funext a
        unfold mrg ovr
        cases e : F a with
        | none => rfl
        | some o => simp only [h0 a o e]
      refine ⟨hl, S0, fun a u e => ?_, ?_⟩
      · unfold ovr
        cases e2 : F a with
        | none => exact sb a u e
        | some o => rw [h0 a o e2] at e; cases e
      · simpa only [em] using k
theorem Sub.rfl' : Sub S S := fun _ _ h => h
theorem put_eq {p : Nat} {o : AO} : put S p o p = some o := by unfold put; rw [if_pos rfl]
theorem put_of {p q : Nat} {o : AO} (h : q ≠ p) : put S p o q = S q := by unfold put; rw [if_neg h]
theorem put_put {p : Nat} {o o' : AO} : put (put S p o) p o' = put S p o' := by
  funext q
  unfold put
  split <;> rfl
theorem put_comm {p q : Nat} {o o' : AO} (h : p ≠ q) : put (put S p o) q o' = put (put S q o') p o := by
  funext r
  show (if r = q then some o' else if r = p then some o else S r) = (if r = p then some o else if r = q then some o' else S r)
  by_cases h1 : r = p
  · rw [if_pos h1, if_pos h1, if_neg (by rw [h1]; exact h)]
  · rw [if_neg h1, if_neg h1]
theorem less_put {p : Nat} {o : AO} (h : S p = none) : less [p] (put S p o) = S := by
  funext a
  unfold less put
  by_cases e : a = p
  · subst e; simp [h]
  · simp [e]
theorem sub_new {T : Sto} {p : Nat} {o : AO} (h : T p = none) : Sub T (put T p o) := fun a u e => by
  rw [put_of (by rintro rfl; rw [h] at e; cases e)]
  exact e
theorem sub_put {T T' : Sto} {p : Nat} {o : AO} (h : Sub T T') : Sub (put T p o) (put T' p o) := fun a u e => by
  by_cases q : a = p
  · subst q; rw [put_eq] at e ⊢; exact e
  · rw [put_of q] at e ⊢; exact h a u e
theorem Sub.trans' {A B T : Sto} (h : Sub A B) (k : Sub B T) : Sub A T := fun a u e => k a u (h a u e)
end
/-- what the law's def is to answer, of each script -/
def LawX (P : Prog) (k most : Nat) (nm : Str) : Prop := ∀ ns : List Int, ns.length ≤ most → (∀ z ∈ ns, z.natAbs.log2 < 1048576) →
  callX P k nm [.fz (ns.map .int)] (fun _ => none) (fun d _ => d = .bl true) (fun _ _ => False)
theorem lawX {P : Prog} {k most : Nat} {nm : Str} (h : LawX P k most nm) : LawW P k most nm := fun ns a b => by
  have q := h ns a b
  rw [callX_eq] at q
  exact q
end Ev
set_option maxHeartbeats 0
namespace K22
open PySem (Str)
open Ev
def d_is_integer : Df := ⟨3, 3, (.cons (.ret (.and (.isi (.var 0) .int) (.and (.not (.isi (.var 0) .bool)) (.chn .le .le (.var 1) (.var 0) (.var 2)))))
  .nil)⟩
def d_check_table : Df := ⟨2, 5, (.cons (.iff (.not (.isi (.var 1) .tuple)) (.cons (.rse "BadTable" ["row", "reason"] true (.cons .non (.cons (.str
  "shape") .nil))) .nil) .nil) (.cons (.iff (.cmp .gt (.blt .len (.cons (.var 1) .nil)) (.cst "MOST_ROWS" (.int (64 : Nat)))) (.cons (.rse "BadTable"
  ["row", "reason"] true (.cons .non (.cons (.str "rows") .nil))) .nil) .nil) (.cons (.for (.tp (.cons (.nm 2) (.cons (.nm 3) .nil))) (.enum (.var 1))
  (.cons (.asg (.tg (.nm 4)) (.call "wrong_row" (.cons (.var 0) (.cons (.var 3) .nil)))) (.cons (.iff (.cmp .isnot (.var 4) .non) (.cons (.rse
  "BadTable" ["row", "reason"] true (.cons (.var 2) (.cons (.var 4) .nil))) .nil) .nil) .nil))) .nil)))⟩
def d_wrong_row : Df := ⟨2, 7, (.cons (.iff (.or (.not (.isi (.var 1) .tuple)) (.cmp .ne (.blt .len (.cons (.var 1) .nil)) (.int (4 : Nat)))) (.cons
  (.ret (.str "shape")) .nil) .nil) (.cons (.asg (.tg (.tp (.cons (.nm 2) (.cons (.nm 3) (.cons (.nm 4) (.cons (.nm 5) .nil)))))) (.var 1)) (.cons
  (.iff (.not (.call "is_integer" (.cons (.var 2) (.cons (.int (0 : Nat)) (.cons (.int (7 : Nat)) .nil))))) (.cons (.ret (.str "hand")) .nil) .nil)
  (.cons (.iff (.not (.call "is_integer" (.cons (.var 3) (.cons (.int (0 : Nat)) (.cons (.int (9 : Nat)) .nil))))) (.cons (.ret (.str "rank")) .nil)
  .nil) (.cons (.iff (.not (.call "is_integer" (.cons (.var 4) (.cons (.int (1 : Nat)) (.cons (.int (1000 : Nat)) .nil))))) (.cons (.ret (.str
  "weight")) .nil) .nil) (.cons (.iff (.or (.not (.isi (.var 5) .tuple)) (.cmp .ne (.blt .len (.cons (.var 5) .nil)) (.var 0))) (.cons (.ret (.str
  "cells")) .nil) .nil) (.cons (.iff (.not (.blt .all (.cons (.lc (.call "is_integer" (.cons (.var 6) (.cons (.int (0 : Nat)) (.cons (.int (999 : Nat))
  .nil)))) (.nm 6) (.val (.var 5)) .no [6]) .nil))) (.cons (.ret (.str "cells")) .nil) .nil) (.cons (.ret .non) .nil))))))))⟩
def d_is_table : Df := ⟨2, 2, (.cons (.tryO (.cons (.exp (.call "check_table" (.cons (.var 0) (.cons (.var 1) .nil)))) .nil) [("BadTable", (.cons (.ret
  (.bl false)) .nil))] ["BadTable"]) (.cons (.ret (.bl true)) .nil))⟩
def d_is_row_set : Df := ⟨2, 4, (.cons (.iff (.not (.isi (.var 1) .tuple)) (.cons (.ret (.bl false)) .nil) .nil) (.cons (.asg (.tg (.nm 2)) (.neg (.int
  (1 : Nat)))) (.cons (.for (.nm 3) (.val (.var 1)) (.cons (.iff (.not (.call "is_integer" (.cons (.var 3) (.cons (.bin .add (.var 2) (.int (1 : Nat)))
  (.cons (.bin .sub (.var 0) (.int (1 : Nat))) .nil))))) (.cons (.ret (.bl false)) .nil) .nil) (.cons (.asg (.tg (.nm 2)) (.var 3)) .nil))) (.cons
  (.ret (.bl true)) .nil))))⟩
def d_law_begin : Df := ⟨1, 2, (.cons (.ret (.lst (.cons (.lc (.blt .int (.cons (.var 1) .nil)) (.nm 1) (.val (.var 0)) .no [1]) (.cons (.int (0 :
  Nat)) (.cons (.int (0 : Nat)) (.cons (.int (17 : Nat)) .nil)))))) .nil)⟩
def d_law_draw : Df := ⟨2, 5, (.cons (.iff (.cmp .gt (.idx (.var 0) (.int (2 : Nat))) (.int (0 : Nat))) (.cons (.asg (.tg (.nm 2)) (.idx (.var 0) (.int
  (2 : Nat)))) (.cons (.asg (.sub (.var 0) (.int (2 : Nat))) (.bin .fdiv (.var 2) (.var 1))) (.cons (.ret (.bin .mod (.blt .int (.cons (.var 2) .nil))
  (.var 1))) .nil))) .nil) (.cons (.asg (.tg (.nm 3)) (.int (0 : Nat))) (.cons (.iff (.cmp .lt (.idx (.var 0) (.int (1 : Nat))) (.blt .len (.cons (.idx
  (.var 0) (.int (0 : Nat))) .nil))) (.cons (.asg (.tg (.nm 4)) (.idx (.idx (.var 0) (.int (0 : Nat))) (.idx (.var 0) (.int (1 : Nat))))) (.cons (.asg
  (.tg (.nm 3)) (.bin .add (.bin .mul (.int (2 : Nat)) (.blt .abs (.cons (.var 4) .nil))) (.blt .int (.cons (.cmp .lt (.var 4) (.int (0 : Nat)))
  .nil)))) .nil)) .nil) (.cons (.augs (.var 0) (.int (1 : Nat)) .add (.int (1 : Nat))) (.cons (.iff (.cmp .ge (.var 3) (.bin .mul (.int (2 : Nat))
  (.bin .pow (.int (10 : Nat)) (.int (18 : Nat))))) (.cons (.asg (.tg (.nm 2)) (.bin .mod (.blt .int (.cons (.bin .fdiv (.var 3) (.int (2 : Nat)))
  .nil)) (.bin .shl (.int (1 : Nat)) (.int (6000 : Nat))))) (.cons (.asg (.sub (.var 0) (.int (2 : Nat))) (.bin .fdiv (.var 2) (.var 1))) (.cons (.ret
  (.bin .mod (.blt .int (.cons (.var 2) .nil)) (.var 1))) .nil))) .nil) (.cons (.asg (.sub (.var 0) (.int (3 : Nat))) (.bin .mod (.blt .int (.cons
  (.bin .add (.bin .add (.bin .add (.bin .mul (.idx (.var 0) (.int (3 : Nat))) (.int (69069 : Nat))) (.bin .mul (.bin .mod (.blt .int (.cons (.var 3)
  .nil)) (.int (2147483629 : Nat))) (.int (40692 : Nat)))) (.bin .mul (.idx (.var 0) (.int (1 : Nat))) (.int (40014 : Nat)))) (.int (29 : Nat))) .nil))
  (.int (2147483647 : Nat)))) (.cons (.ret (.bin .mod (.blt .int (.cons (.bin .fdiv (.idx (.var 0) (.int (3 : Nat))) (.int (32 : Nat))) .nil)) (.var
  1))) .nil)))))))⟩
def d_law_pick : Df := ⟨2, 2, (.cons (.ret (.idx (.var 1) (.call "_law_draw" (.cons (.var 0) (.cons (.blt .len (.cons (.var 1) .nil)) .nil))))) .nil)⟩
def d_law_is_int : Df := ⟨1, 1, (.cons (.ret (.and (.isi (.var 0) .int) (.not (.isi (.var 0) .bool)))) .nil)⟩
def d_law_says : Df := ⟨2, 2, (.cons (.ret (.and (.isi (.var 0) .bool) (.cmp .eq (.var 0) (.var 1)))) .nil)⟩
def d_law_plain : Df := ⟨1, 4, (.cons (.asg (.tg (.nm 1)) (.lst (.cons (.var 0) .nil))) (.cons (.for (.nm 2) (.rg1 (.int (20000 : Nat))) (.cons (.iff
  (.cmp .eq (.var 1) (.lst .nil)) (.cons (.ret (.bl true)) .nil) .nil) (.cons (.asg (.tg (.nm 3)) (.mth .pop0 (.var 1) .nil)) (.cons (.iff (.isi (.var
  3) .tuple) (.cons (.exp (.mth .extend (.var 1) (.cons (.var 3) .nil))) .nil) (.cons (.iff (.not (.or (.cmp .is (.var 3) .non) (.or (.isi (.var 3)
  .str) (.call "_law_is_int" (.cons (.var 3) .nil))))) (.cons (.ret (.bl false)) .nil) .nil) .nil)) .nil)))) (.cons (.ret (.cmp .eq (.var 1) (.lst
  .nil))) .nil)))⟩
def d_law_is_rows : Df := ⟨2, 3, (.cons (.iff (.or (.not (.isi (.var 1) .tuple)) (.not (.blt .all (.cons (.lc (.call "_law_is_int" (.cons (.var 2)
  .nil)) (.nm 2) (.val (.var 1)) .no [2]) .nil)))) (.cons (.ret (.bl false)) .nil) .nil) (.cons (.ret (.and (.cmp .eq (.blt .list (.cons (.var 1)
  .nil)) (.blt .sorted (.cons (.blt .list (.cons (.var 1) .nil)) .nil))) (.blt .all (.cons (.lc (.and (.cmp .eq (.mth .count (.var 1) (.cons (.var 2)
  .nil)) (.int (1 : Nat))) (.chn .le .lt (.int (0 : Nat)) (.var 2) (.var 0))) (.nm 2) (.val (.var 1)) .no [2]) .nil)))) .nil))⟩
def d_law_within_bounds : Df := ⟨3, 3, (.cons (.ret (.and (.call "_law_is_int" (.cons (.var 0) .nil)) (.chn .le .le (.var 1) (.var 0) (.var 2))))
  .nil)⟩
def d_law_reason : Df := ⟨2, 3, (.cons (.iff (.or (.not (.isi (.var 1) .tuple)) (.cmp .ne (.blt .len (.cons (.var 1) .nil)) (.int (4 : Nat)))) (.cons
  (.ret (.str "shape")) .nil) .nil) (.cons (.iff (.not (.call "_law_within_bounds" (.cons (.idx (.var 1) (.int (0 : Nat))) (.cons (.int (0 : Nat))
  (.cons (.int (7 : Nat)) .nil))))) (.cons (.ret (.str "hand")) .nil) .nil) (.cons (.iff (.not (.call "_law_within_bounds" (.cons (.idx (.var 1) (.int
  (1 : Nat))) (.cons (.int (0 : Nat)) (.cons (.int (9 : Nat)) .nil))))) (.cons (.ret (.str "rank")) .nil) .nil) (.cons (.iff (.not (.call
  "_law_within_bounds" (.cons (.idx (.var 1) (.int (2 : Nat))) (.cons (.int (1 : Nat)) (.cons (.int (1000 : Nat)) .nil))))) (.cons (.ret (.str
  "weight")) .nil) .nil) (.cons (.iff (.or (.not (.isi (.idx (.var 1) (.int (3 : Nat))) .tuple)) (.cmp .ne (.blt .len (.cons (.idx (.var 1) (.int (3 :
  Nat))) .nil)) (.var 0))) (.cons (.ret (.str "cells")) .nil) .nil) (.cons (.iff (.not (.blt .all (.cons (.lc (.call "_law_within_bounds" (.cons (.var
  2) (.cons (.int (0 : Nat)) (.cons (.int (999 : Nat)) .nil)))) (.nm 2) (.val (.idx (.var 1) (.int (3 : Nat)))) .no [2]) .nil))) (.cons (.ret (.str
  "cells")) .nil) .nil) (.cons (.ret (.str "")) .nil)))))))⟩
def d_law_due : Df := ⟨2, 4, (.cons (.iff (.not (.isi (.var 1) .tuple)) (.cons (.ret (.tup (.cons .non (.cons (.str "shape") .nil)))) .nil) .nil)
  (.cons (.iff (.cmp .gt (.blt .len (.cons (.var 1) .nil)) (.int (64 : Nat))) (.cons (.ret (.tup (.cons .non (.cons (.str "rows") .nil)))) .nil) .nil)
  (.cons (.for (.nm 2) (.rg1 (.blt .len (.cons (.var 1) .nil))) (.cons (.asg (.tg (.nm 3)) (.call "_law_reason" (.cons (.var 0) (.cons (.idx (.var 1)
  (.var 2)) .nil)))) (.cons (.iff (.cmp .ne (.var 3) (.str "")) (.cons (.ret (.tup (.cons (.var 2) (.cons (.var 3) .nil)))) .nil) .nil) .nil))) (.cons
  (.ret (.tup .nil)) .nil))))⟩
def d_law_told : Df := ⟨2, 3, (.cons (.tryA (.cons (.exp (.call "check_table" (.cons (.var 0) (.cons (.var 1) .nil)))) .nil) "TruceError" 2 (.cons
  (.iff (.or (.not (.isx ["BadTable"])) (.not (.isx ["ValueError"]))) (.cons (.ret (.tup (.cons (.str "strange") .nil))) .nil) .nil) (.cons (.iff (.isx
  ["BadBook", "BadDeed", "BadHouse", "BadPuzzle", "BadQuestion", "BadText", "TooMany"]) (.cons (.ret (.tup (.cons (.str "strange") .nil))) .nil) .nil)
  (.cons (.iff (.isx ["NoRow", "NotFolding", "NotLadder", "NotShared", "NoWay", "WrongCore"]) (.cons (.ret (.tup (.cons (.str "strange") .nil))) .nil)
  .nil) (.cons (.ret (.tup (.cons (.att "row") (.cons (.att "reason") .nil)))) .nil)))) ["BadTable"]) (.cons (.ret (.tup .nil)) .nil))⟩
def d_law_end : Df := ⟨3, 3, (.cons (.ret (.call "_law_pick" (.cons (.var 0) (.cons (.lst (.cons (.var 1) (.cons (.var 2) (.cons (.bin .add (.var 1)
  (.call "_law_draw" (.cons (.var 0) (.cons (.bin .add (.bin .sub (.var 2) (.var 1)) (.int (1 : Nat))) .nil)))) .nil)))) .nil)))) .nil)⟩
def d_law_good_row : Df := ⟨2, 4, (.cons (.asg (.tg (.nm 2)) (.blt .tuple (.cons (.lc (.call "_law_end" (.cons (.var 0) (.cons (.int (0 : Nat)) (.cons
  (.int (999 : Nat)) .nil)))) (.nm 3) (.rg1 (.var 1)) .no [3]) .nil))) (.cons (.ret (.tup (.cons (.call "_law_end" (.cons (.var 0) (.cons (.int (0 :
  Nat)) (.cons (.int (7 : Nat)) .nil)))) (.cons (.call "_law_end" (.cons (.var 0) (.cons (.int (0 : Nat)) (.cons (.int (9 : Nat)) .nil)))) (.cons
  (.call "_law_end" (.cons (.var 0) (.cons (.int (1 : Nat)) (.cons (.int (1000 : Nat)) .nil)))) (.cons (.var 2) .nil)))))) .nil))⟩
def d_law_odd : Df := ⟨3, 5, (.cons (.asg (.tg (.nm 3)) (.bin .add (.var 1) (.call "_law_draw" (.cons (.var 0) (.cons (.bin .add (.bin .sub (.var 2)
  (.var 1)) (.int (1 : Nat))) .nil))))) (.cons (.asg (.tg (.nm 4)) (.bin .add (.bin .add (.var 2) (.int (1 : Nat))) (.call "_law_draw" (.cons (.var 0)
  (.cons (.bin .pow (.int (10 : Nat)) (.int (12 : Nat))) .nil))))) (.cons (.ret (.call "_law_pick" (.cons (.var 0) (.cons (.lst (.cons (.bin .sub (.var
  1) (.int (1 : Nat))) (.cons (.bin .add (.var 2) (.int (1 : Nat))) (.cons (.var 1) (.cons (.var 2) (.cons (.bl true) (.cons (.bl false) (.cons .non
  (.cons (.blt .str (.cons (.var 3) .nil)) (.cons (.tup (.cons (.var 3) .nil)) (.cons (.lst (.cons (.var 3) .nil)) (.cons (.var 4) (.cons (.neg (.var
  4)) .nil))))))))))))) .nil)))) .nil)))⟩
def d_law_odd_cells : Df := ⟨3, 5, (.cons (.asg (.tg (.nm 3)) (.call "_law_draw" (.cons (.var 0) (.cons (.var 1) .nil)))) (.cons (.asg (.tg (.nm 4))
  (.bin .add (.bin .add (.slc (.var 2) .no (.yes (.var 3))) (.tup (.cons (.call "_law_odd" (.cons (.var 0) (.cons (.int (0 : Nat)) (.cons (.int (999 :
  Nat)) .nil)))) .nil))) (.slc (.var 2) (.yes (.bin .add (.var 3) (.int (1 : Nat)))) .no))) (.cons (.ret (.call "_law_pick" (.cons (.var 0) (.cons
  (.lst (.cons (.var 4) (.cons (.var 4) (.cons (.var 4) (.cons (.blt .list (.cons (.var 2) .nil)) (.cons (.slc (.var 2) .no (.yes (.neg (.int (1 :
  Nat))))) (.cons (.bin .add (.var 2) (.slc (.var 2) .no (.yes (.int (1 : Nat))))) (.cons .non (.cons (.int (0 : Nat)) (.cons (.tup (.cons (.var 2)
  .nil)) .nil)))))))))) .nil)))) .nil)))⟩
def d_law_odd_row : Df := ⟨3, 7, (.cons (.asg (.tg (.nm 3)) (.call "_law_draw" (.cons (.var 0) (.cons (.int (8 : Nat)) .nil)))) (.cons (.iff (.cmp .eq
  (.var 3) (.int (0 : Nat))) (.cons (.ret (.call "_law_pick" (.cons (.var 0) (.cons (.lst (.cons .non (.cons (.blt .list (.cons (.var 2) .nil)) (.cons
  (.slc (.var 2) .no (.yes (.int (3 : Nat)))) (.cons (.bin .add (.var 2) (.tup (.cons (.int (0 : Nat)) .nil))) (.cons (.tup .nil) (.cons (.int (5 :
  Nat)) (.cons (.str "row") (.cons (.tup (.cons (.var 2) .nil)) .nil))))))))) .nil)))) .nil) .nil) (.cons (.asg (.tg (.nm 4)) (.blt .list (.cons (.var
  2) .nil))) (.cons (.for (.nm 5) (.rg1 (.bin .add (.int (1 : Nat)) (.blt .int (.cons (.cmp .lt (.var 3) (.int (4 : Nat))) .nil)))) (.cons (.asg (.tg
  (.nm 6)) (.call "_law_draw" (.cons (.var 0) (.cons (.int (4 : Nat)) .nil)))) (.cons (.iff (.cmp .eq (.var 6) (.int (3 : Nat))) (.cons (.asg (.sub
  (.var 4) (.int (3 : Nat))) (.call "_law_odd_cells" (.cons (.var 0) (.cons (.var 1) (.cons (.idx (.var 2) (.int (3 : Nat))) .nil))))) .nil) (.cons
  (.asg (.sub (.var 4) (.var 6)) (.call "_law_odd" (.cons (.var 0) (.cons (.idx (.lst (.cons (.int (0 : Nat)) (.cons (.int (0 : Nat)) (.cons (.int (1 :
  Nat)) .nil)))) (.var 6)) (.cons (.idx (.lst (.cons (.int (7 : Nat)) (.cons (.int (9 : Nat)) (.cons (.int (1000 : Nat)) .nil)))) (.var 6)) .nil)))))
  .nil)) .nil))) (.cons (.ret (.blt .tuple (.cons (.var 4) .nil))) .nil)))))⟩
def d_law_odd_table : Df := ⟨3, 7, (.cons (.asg (.tg (.nm 3)) (.call "_law_draw" (.cons (.var 0) (.cons (.int (8 : Nat)) .nil)))) (.cons (.iff (.cmp
  .eq (.var 3) (.int (0 : Nat))) (.cons (.ret (.call "_law_pick" (.cons (.var 0) (.cons (.lst (.cons (.blt .list (.cons (.var 2) .nil)) (.cons .non
  (.cons (.str "rows") (.cons (.int (0 : Nat)) (.cons (.bin .add (.var 2) (.tup (.cons .non .nil))) (.cons (.tup (.cons (.var 2) .nil)) .nil)))))))
  .nil)))) .nil) .nil) (.cons (.iff (.or (.cmp .eq (.var 3) (.int (1 : Nat))) (.cmp .eq (.var 2) (.tup .nil))) (.cons (.ret (.bin .add (.var 2) (.tup
  (.cons (.call "_law_odd_row" (.cons (.var 0) (.cons (.var 1) (.cons (.call "_law_good_row" (.cons (.var 0) (.cons (.var 1) .nil))) .nil)))) .nil))))
  .nil) .nil) (.cons (.asg (.tg (.nm 4)) (.blt .list (.cons (.var 2) .nil))) (.cons (.for (.nm 5) (.rg1 (.bin .add (.int (1 : Nat)) (.blt .int (.cons
  (.cmp .lt (.var 3) (.int (5 : Nat))) .nil)))) (.cons (.asg (.tg (.nm 6)) (.call "_law_draw" (.cons (.var 0) (.cons (.blt .len (.cons (.var 4) .nil))
  .nil)))) (.cons (.asg (.sub (.var 4) (.var 6)) (.call "_law_odd_row" (.cons (.var 0) (.cons (.var 1) (.cons (.idx (.var 2) (.var 6)) .nil)))))
  .nil))) (.cons (.ret (.blt .tuple (.cons (.var 4) .nil))) .nil))))))⟩
def d_law_twins : Df := ⟨2, 5, (.cons (.asg (.tg (.nm 2)) (.lst (.cons (.int (1 : Nat)) (.cons (.int (1 : Nat)) (.cons (.int (1 : Nat)) (.cons (.bin
  .mul (.tup (.cons (.int (1 : Nat)) .nil)) (.var 1)) .nil)))))) (.cons (.asg (.tg (.nm 3)) (.blt .list (.cons (.var 2) .nil))) (.cons (.asg (.tg (.nm
  4)) (.call "_law_draw" (.cons (.var 0) (.cons (.int (4 : Nat)) .nil)))) (.cons (.asg (.sub (.var 3) (.var 4)) (.ite (.cmp .lt (.var 4) (.int (3 :
  Nat))) (.bl true) (.bin .add (.bin .mul (.tup (.cons (.int (1 : Nat)) .nil)) (.bin .sub (.var 1) (.int (1 : Nat)))) (.tup (.cons (.bl true) .nil)))))
  (.cons (.ret (.lst (.cons (.tup (.cons (.blt .tuple (.cons (.var 2) .nil)) .nil)) (.cons (.tup (.cons (.blt .tuple (.cons (.var 3) .nil)) .nil))
  (.cons (.tup (.cons (.blt .tuple (.cons (.var 2) .nil)) (.cons (.blt .tuple (.cons (.var 3) .nil)) .nil))) (.cons (.tup (.cons (.blt .tuple (.cons
  (.var 2) .nil)) .nil)) .nil)))))) .nil)))))⟩
def d_law_sets_of_rows : Df := ⟨1, 8, (.cons (.asg (.tg (.nm 1)) (.call "_law_draw" (.cons (.var 0) (.cons (.int (10 : Nat)) .nil)))) (.cons (.iff
  (.cmp .eq (.call "_law_draw" (.cons (.var 0) (.cons (.int (6 : Nat)) .nil))) (.int (4 : Nat))) (.cons (.asg (.tg (.nm 1)) (.bin .add (.int (60 :
  Nat)) (.call "_law_draw" (.cons (.var 0) (.cons (.int (5 : Nat)) .nil))))) .nil) .nil) (.cons (.asg (.tg (.nm 2)) (.blt .tuple (.cons (.lc (.var 6)
  (.nm 6) (.rg1 (.var 1)) (.yes (.cmp .eq (.call "_law_draw" (.cons (.var 0) (.cons (.int (2 : Nat)) .nil))) (.int (1 : Nat)))) [6]) .nil))) (.cons
  (.asg (.tg (.nm 3)) (.call "_law_draw" (.cons (.var 0) (.cons (.bin .add (.blt .len (.cons (.var 2) .nil)) (.int (1 : Nat))) .nil)))) (.cons (.asg
  (.tg (.nm 4)) (.call "_law_pick" (.cons (.var 0) (.cons (.lst (.cons (.var 1) (.cons (.bin .sub (.var 1) (.int (1 : Nat))) (.cons (.neg (.int (1 :
  Nat))) (.cons (.bl true) (.cons (.bl false) (.cons .non (.cons (.str "0") (.cons (.bin .pow (.int (10 : Nat)) (.int (30 : Nat))) (.cons (.tup (.cons
  (.int (0 : Nat)) .nil)) (.cons (.int (0 : Nat)) (.cons (.int (1 : Nat)) (.cons (.int (2 : Nat)) .nil))))))))))))) .nil)))) (.cons (.asg (.tg (.nm 5))
  (.lst (.cons (.var 2) (.cons (.tup .nil) (.cons (.blt .tuple (.cons (.rgl (.var 1)) .nil)) (.cons (.bin .add (.var 2) (.tup (.cons (.var 1) .nil)))
  (.cons (.bin .add (.var 2) (.tup (.cons (.bin .sub (.var 1) (.int (1 : Nat))) .nil))) (.cons (.bin .add (.tup (.cons (.neg (.int (1 : Nat))) .nil))
  (.var 2)) (.cons (.bin .add (.var 2) (.slc (.var 2) (.yes (.neg (.int (1 : Nat)))) .no)) (.cons (.bin .add (.bin .add (.slc (.var 2) .no (.yes (.var
  3))) (.tup (.cons (.var 4) .nil))) (.slc (.var 2) (.yes (.var 3)) .no)) (.cons (.bin .add (.bin .add (.slc (.var 2) .no (.yes (.var 3))) (.tup (.cons
  (.var 4) .nil))) (.slc (.var 2) (.yes (.bin .add (.var 3) (.int (1 : Nat)))) .no)) (.cons (.blt .list (.cons (.var 2) .nil)) (.cons (.tup (.cons
  (.var 2) .nil)) (.cons (.blt .tuple (.cons (.srtr (.blt .list (.cons (.var 2) .nil))) .nil)) (.cons (.blt .tuple (.cons (.lc (.cmp .gt (.var 6) (.int
  (0 : Nat))) (.nm 6) (.val (.var 2)) .no [6]) .nil)) (.cons .non (.cons (.var 1) (.cons (.str "0") (.cons (.var 2) .nil))))))))))))))))))) (.cons
  (.ret (.blt .all (.cons (.lc (.call "_law_says" (.cons (.call "is_row_set" (.cons (.var 1) (.cons (.var 7) .nil))) (.cons (.call "_law_is_rows"
  (.cons (.var 1) (.cons (.var 7) .nil))) .nil))) (.nm 7) (.val (.var 5)) .no [7]) .nil))) .nil)))))))⟩
def d_law : Df := ⟨1, 12, (.cons (.asg (.tg (.nm 1)) (.call "_law_begin" (.cons (.var 0) .nil))) (.cons (.asg (.tg (.nm 2)) (.bin .add (.int (1 : Nat))
  (.call "_law_draw" (.cons (.var 1) (.cons (.int (6 : Nat)) .nil))))) (.cons (.asg (.tg (.nm 3)) (.call "_law_draw" (.cons (.var 1) (.cons (.int (8 :
  Nat)) .nil)))) (.cons (.iff (.cmp .eq (.call "_law_draw" (.cons (.var 1) (.cons (.int (8 : Nat)) .nil))) (.int (5 : Nat))) (.cons (.asg (.tg (.nm 3))
  (.bin .add (.int (63 : Nat)) (.call "_law_draw" (.cons (.var 1) (.cons (.int (2 : Nat)) .nil))))) .nil) .nil) (.cons (.asg (.tg (.nm 4)) (.blt .tuple
  (.cons (.lc (.call "_law_good_row" (.cons (.var 1) (.cons (.var 2) .nil))) (.nm 11) (.rg1 (.blt .min2 (.cons (.var 3) (.cons (.int (7 : Nat))
  .nil)))) .no [11]) .nil))) (.cons (.asg (.tg (.nm 4)) (.slc (.bin .mul (.var 4) (.int (10 : Nat))) .no (.yes (.var 3)))) (.cons (.asg (.tg (.nm 5))
  (.lst (.cons (.tup (.cons (.var 2) (.cons (.var 4) .nil))) (.cons (.tup (.cons (.var 2) (.cons (.bin .add (.var 4) (.slc (.var 4) (.yes (.neg (.int
  (1 : Nat)))) .no)) .nil))) (.cons (.tup (.cons (.bin .add (.int (1 : Nat)) (.call "_law_draw" (.cons (.var 1) (.cons (.int (6 : Nat)) .nil)))) (.cons
  (.var 4) .nil))) .nil))))) (.cons (.for (.nm 6) (.rg1 (.int (4 : Nat))) (.cons (.exp (.mth .append (.var 5) (.cons (.tup (.cons (.var 2) (.cons
  (.call "_law_odd_table" (.cons (.var 1) (.cons (.var 2) (.cons (.var 4) .nil)))) .nil))) .nil))) .nil)) (.cons (.exp (.mth .extend (.var 5) (.cons
  (.lc (.tup (.cons (.var 2) (.cons (.var 8) .nil))) (.nm 8) (.val (.call "_law_twins" (.cons (.var 1) (.cons (.var 2) .nil)))) .no [8]) .nil))) (.cons
  (.exp (.mth .append (.var 5) (.cons (.tup (.cons (.var 2) (.cons (.var 4) .nil))) .nil))) (.cons (.for (.tp (.cons (.nm 7) (.cons (.nm 8) .nil)))
  (.val (.var 5)) (.cons (.asg (.tg (.nm 9)) (.call "_law_due" (.cons (.var 7) (.cons (.var 8) .nil)))) (.cons (.asg (.tg (.nm 10)) (.call "_law_told"
  (.cons (.var 7) (.cons (.var 8) .nil)))) (.cons (.iff (.or (.not (.call "_law_plain" (.cons (.var 10) .nil))) (.cmp .ne (.var 10) (.var 9))) (.cons
  (.ret (.bl false)) .nil) .nil) (.cons (.iff (.not (.call "_law_says" (.cons (.call "is_table" (.cons (.var 7) (.cons (.var 8) .nil))) (.cons (.cmp
  .eq (.var 9) (.tup .nil)) .nil)))) (.cons (.ret (.bl false)) .nil) .nil) .nil))))) (.cons (.ret (.call "_law_sets_of_rows" (.cons (.var 1) .nil)))
  .nil))))))))))))⟩
/-- the text holds these defs -/
structure Has (P : Prog) : Prop where
  h_is_integer : P "is_integer" = some d_is_integer
  h_check_table : P "check_table" = some d_check_table
  h_wrong_row : P "wrong_row" = some d_wrong_row
  h_is_table : P "is_table" = some d_is_table
  h_is_row_set : P "is_row_set" = some d_is_row_set
  h_law_begin : P "_law_begin" = some d_law_begin
  h_law_draw : P "_law_draw" = some d_law_draw
  h_law_pick : P "_law_pick" = some d_law_pick
  h_law_is_int : P "_law_is_int" = some d_law_is_int
  h_law_says : P "_law_says" = some d_law_says
  h_law_plain : P "_law_plain" = some d_law_plain
  h_law_is_rows : P "_law_is_rows" = some d_law_is_rows
  h_law_within_bounds : P "_law_within_bounds" = some d_law_within_bounds
  h_law_reason : P "_law_reason" = some d_law_reason
  h_law_due : P "_law_due" = some d_law_due
  h_law_told : P "_law_told" = some d_law_told
  h_law_end : P "_law_end" = some d_law_end
  h_law_good_row : P "_law_good_row" = some d_law_good_row
  h_law_odd : P "_law_odd" = some d_law_odd
  h_law_odd_cells : P "_law_odd_cells" = some d_law_odd_cells
  h_law_odd_row : P "_law_odd_row" = some d_law_odd_row
  h_law_odd_table : P "_law_odd_table" = some d_law_odd_table
  h_law_twins : P "_law_twins" = some d_law_twins
  h_law_sets_of_rows : P "_law_sets_of_rows" = some d_law_sets_of_rows
  h_law : P "law" = some d_law

section
open PySem PySem.Spec PyProof.Rows L2 Ev
def tp (i : Nat) : Stmt := PySem.Challenge.pw_rowtruce_k22_tables_checked.main.body.getD i (.Pass ⟨0, 0, 0, 0⟩)
def en (i : Nat) (nm : Str) (N : List Str) (df : Df) : Ent := ⟨nm, N, df, defArgs (tp i), defBody (tp i), defScope (tp i)⟩
def e_is_integer : Ent := en 18 "is_integer" ["thing", "low", "high"] d_is_integer
def e_check_table : Ent := en 19 "check_table" ["columns", "rows", "number", "row", "reason"] d_check_table
def e_wrong_row : Ent := en 20 "wrong_row" ["columns", "row", "hand", "rank", "weight", "cells", "cell"] d_wrong_row
def e_is_table : Ent := en 21 "is_table" ["columns", "thing"] d_is_table
def e_is_row_set : Ent := en 22 "is_row_set" ["many", "thing", "last", "row"] d_is_row_set
def e_law_begin : Ent := en 24 "_law_begin" ["script", "cell"] d_law_begin
def e_law_draw : Ent := en 25 "_law_draw" ["d", "many", "value", "size", "cell"] d_law_draw
def e_law_pick : Ent := en 26 "_law_pick" ["d", "row"] d_law_pick
def e_law_is_int : Ent := en 27 "_law_is_int" ["thing"] d_law_is_int
def e_law_says : Ent := en 28 "_law_says" ["told", "due"] d_law_says
def e_law_plain : Ent := en 29 "_law_plain" ["thing", "waiting", "k", "part"] d_law_plain
def e_law_is_rows : Ent := en 30 "_law_is_rows" ["many", "thing", "row"] d_law_is_rows
def e_law_within_bounds : Ent := en 31 "_law_within_bounds" ["thing", "low", "high"] d_law_within_bounds
def e_law_reason : Ent := en 32 "_law_reason" ["columns", "row", "cell"] d_law_reason
def e_law_due : Ent := en 33 "_law_due" ["columns", "thing", "place", "reason"] d_law_due
def e_law_told : Ent := en 34 "_law_told" ["columns", "thing", "e"] d_law_told
def e_law_end : Ent := en 35 "_law_end" ["d", "low", "high"] d_law_end
def e_law_good_row : Ent := en 36 "_law_good_row" ["d", "columns", "cells", "place"] d_law_good_row
def e_law_odd : Ent := en 37 "_law_odd" ["d", "low", "high", "number", "far"] d_law_odd
def e_law_odd_cells : Ent := en 38 "_law_odd_cells" ["d", "columns", "cells", "place", "changed"] d_law_odd_cells
def e_law_odd_row : Ent := en 39 "_law_odd_row" ["d", "columns", "row", "way", "parts", "turn", "place"] d_law_odd_row
def e_law_odd_table : Ent := en 40 "_law_odd_table" ["d", "columns", "rows", "way", "parts", "turn", "place"] d_law_odd_table
def e_law_twins : Ent := en 41 "_law_twins" ["d", "columns", "ones", "parts", "place"] d_law_twins
def e_law_sets_of_rows : Ent := en 42 "_law_sets_of_rows" ["d", "many", "base", "place", "odd", "things", "row", "thing"] d_law_sets_of_rows
def e_law : Ent := en 43 "law" ["script", "d", "columns", "many", "rows", "asked", "turn", "wide", "thing", "due", "told", "k"] d_law
def Ts : List Ent := [e_is_integer, e_check_table, e_wrong_row, e_is_table, e_is_row_set, e_law_begin, e_law_draw, e_law_pick, e_law_is_int,
  e_law_says, e_law_plain, e_law_is_rows, e_law_within_bounds, e_law_reason, e_law_due, e_law_told, e_law_end, e_law_good_row, e_law_odd,
  e_law_odd_cells, e_law_odd_row, e_law_odd_table, e_law_twins, e_law_sets_of_rows, e_law]
def cb (i j : Nat) : Stmt := match tp i with
  | .ClassDef _ _ _ b _ _ _ _ _ _ _ => b.getD j (.Pass ⟨0, 0, 0, 0⟩)
  | _ => .Pass ⟨0, 0, 0, 0⟩
def x_BadTable : XEnt := ⟨"BadTable", "self", ["row", "reason"], true, "BadTable.__init__", defArgs (cb 4 0), defBody (cb 4 0), defScope (cb 4 0)⟩
def T : Txt := ⟨Ts, [("MOST_ROWS", (.int (64 : Nat)))], [], [x_BadTable], ["BadBook", "BadDeed", "BadHouse", "BadPuzzle", "BadQuestion", "BadTable", "BadText", "NoRow", "NoWay", "NotFolding", "NotLadder", "NotShared", "TooMany", "TruceError", "WrongCore"], PySem.Challenge.pw_rowtruce_k22_tables_checked.main.file⟩
theorem T_ok : (T.T.all fun e => entOk T.G e) = true := by decide +kernel
theorem T_xs : (T.xs.all xentOk) = true := by decide +kernel
theorem T_has : Has (progOf T) := by constructor <;> rfl
def lo0 : List Str := ["__name__", "TruceError", "BadText", "BadBook", "BadTable", "BadQuestion", "BadPuzzle", "BadHouse", "BadDeed", "TooMany",
  "NotFolding", "NotLadder", "NotShared", "WrongCore", "NoWay", "NoRow", "MOST_ROWS", "is_integer", "check_table", "wrong_row", "is_table",
  "is_row_set", "_law_begin", "_law_draw", "_law_pick", "_law_is_int", "_law_says", "_law_plain", "_law_is_rows", "_law_within_bounds"]
def lo1 : List Str := ["_law_reason", "_law_due", "_law_told", "_law_end", "_law_good_row", "_law_odd", "_law_odd_cells", "_law_odd_row",
  "_law_odd_table", "_law_twins", "_law_sets_of_rows"]
def lo : List Str := lo0 ++ lo1
abbrev R : PySem.W.OpenRow := PySem.W.OpenLaw.row PySem.Challenge.rw_rowtruce_k22_tables_checked
abbrev hk : PySem.W.Hook := hookC 2 T
def ob (s : PySem.W.SharedT) : AlC := obsC 2 T (HandSHeadRun.getT s)
theorem ob_eq (s : PySem.W.SharedT) : ob s = hk.obs s.abs := obsC_eq (HandSHeadRun.getT_eq s)
theorem runs_false (w : World) : HandSHeadRun.RunEq R (PySem.W.view R.prog [43]) hk ob 5760 lo (w.withFollow "special-get-raises" false) := by
  intro os
  kernel_rfl
theorem runs_true (w : World) : HandSHeadRun.RunEq R (PySem.W.view R.prog [43]) hk ob 5760 lo (w.withFollow "special-get-raises" true) := by
  intro os
  kernel_rfl
theorem runs (w : World) : HandSHeadRun.RunEq R (PySem.W.view R.prog [43]) hk ob 5760 lo w := PySem.W.byRow2 "special-get-raises" (P := fun w => HandSHeadRun.RunEq R (PySem.W.view R.prog [43]) hk ob 5760 lo w) runs_false runs_true w
end

section
local macro_rules
  | `(tactic| walk_at "st") => `(tactic| (first | assumption | exact put_eq | (refine (put_of ?_).trans ?_; (first | assumption | (apply Ne.symm; assumption)); walk_at "st")))
  | `(tactic| walk_at "gk") => `(tactic| first | (show taX _ _ _ _ _; first | refine ta_tup ?_ | (refine ta_nm ?_; first | refine tg_nm ?_)) | (show tgX _ _ _ _; first | refine tg_tp ?_ | refine tg_tpu ?_ | refine tg_nm ?_) | (show tgsX _ _ _ _; first | refine tgs_cons ?_ | refine tgs_nil ?_) | (show itX _ _ _ _ _ _; first | refine it_val ?_ | refine it_rg1 ?_ | refine it_rg2 ?_ | refine it_enum ?_ | refine it_zip ?_ | refine it_rgd ?_ | refine it_rev ?_) | (show itvX _ _ _; first | refine iv_tup ?_ | refine iv_fz ?_ | (apply iv_lst; walk_at "st")) | (show itlX _ _ _; first | refine il_fz ?_ | (apply il_lst; walk_at "st")) | (show zipX _ _ _ _; first | refine iz_tup ?_ | refine iz_fz ?_) | (show ocX _ _ _ _ _; first | refine oc_no ?_ | refine oc_yes ?_) | (show oeX _ _ _ _ _ _; first | refine oe_no ?_ | refine oe_yes ?_) | (show isiX _ _ _ _; first | refine ii (c := true) rfl ?_ | refine ii (c := false) rfl ?_ | (apply ii_lst (c := false); walk_at "st"; focus rfl) | (apply ii_lst (c := true); walk_at "st"; focus rfl)) | (show frX _ _ _; first | refine fr_bl ?_ | refine fr_int ?_ | refine fr_tup ?_ | refine fr_fz ?_ | refine fr_non ?_ | refine fr_str ?_ | (apply fr_ref; walk_at "st")) | (show augX _ _ _ _ _; refine a_int ?_ (by decide)) | (show slcX _ _ _ _ _; first | refine sl_tup ?_ | refine sl_fz ?_ | (apply sl_lst; walk_at "st")) | (show subX _ _ _ _ _; apply su_lstN; walk_at "st"; focus (simp; done)))
  | `(tactic| walk_at "i") => `(tactic| first | (show exX _ _ _ _ _ _; first | refine ex_var ?_ rfl | refine ex_int (b := ((_ : Nat) : Int)) ?_ | refine ex_call ?_ | refine ex_bin ?_ | refine ex_cmp ?_ | refine ex_idx ?_ | refine ex_tup ?_ | refine ex_lst ?_ | refine ex_blt ?_ | refine ex_mth ?_ | refine ex_and ?_ | refine ex_or ?_ | refine ex_not ?_ | refine ex_neg ?_ | refine ex_inv ?_ | refine ex_chn ?_ | refine ex_slc ?_ | refine ex_isi ?_ | refine ex_lc ?_ | refine ex_non ?_ | refine ex_bl ?_ | refine ex_str ?_ | refine ex_dic0 ?_ | refine ex_dic1 ?_ | refine ex_rgl ?_ | refine ex_rgt ?_ | refine ex_revl ?_ | refine ex_slr ?_ | refine ex_cst ?_ | refine ex_cix ?_ | refine ex_int ?_) | (show exsX _ _ _ _ _ _; first | refine exs_cons ?_ | refine exs_nil ?_) | (show sxX _ _ _ _ _; first | refine st_asg' ?_ | refine st_exp' ?_ | refine st_ret' ?_ | refine st_for' ?_ | (show sxX _ (.aug _ _ _) _ _ _; first | refine st_aug' ?_ rfl) | refine st_sub' ?_ | refine st_retn' ?_ | refine st_augs' ?_ | refine st_brk' ?_ | refine st_cnt' ?_ | refine st_pss' ?_ | refine st_rse' ?_ | refine st_tryA' ?_ | refine st_tryO' ?_) | (show sxsX _ _ _ _ _; first | refine ss_cons' ?_ | refine ss_nil' ?_) | (show binX _ _ _ _ _; first | refine b_addN ?_ | refine b_orN ?_ | refine b_andN ?_ | refine b_dif ?_ | refine b_shrN ?_ | refine b_shlN ?_ ⟨by first | decide | omega, by first | decide | omega⟩ | refine b_subN ?_ (by omega) | refine b_modN ?_ (by first | decide | omega) | refine b_divS ?_ (by first | decide | omega) | refine b_mulN ?_ (by assumption) | refine b_addT ?_ (Nat.le_of_ble_eq_true rfl) | refine b_addF ?_ (Nat.le_of_ble_eq_true rfl) | refine b_add ?_ | refine b_addB ?_ | refine b_sub ?_ | refine b_and ?_ | refine b_or ?_ | refine b_xor ?_) | (show cmpX _ _ _ _ _; first | refine c_eqN ?_ | refine c_neN ?_ | refine c_ltN ?_ | refine c_leN ?_ | refine c_gtN ?_ | refine c_geN ?_ | refine c_lt ?_ | refine c_le ?_ | refine c_gt ?_ | refine c_ge ?_ | refine c_eqI ?_ | refine c_neI ?_ | refine c_eqb ?_ | refine c_neb ?_ | refine c_isN ?_ | refine c_isnN ?_ | refine c_isn (by simp) ?_ | refine c_isnn (by simp) ?_) | (show truX _ _ _; first | refine tr_bl ?_ | refine tr_bit ?_ | refine tr_nat ?_ | refine tr_int ?_ | refine tr_non ?_ | refine tr_tup ?_ | refine tr_fz ?_ | (apply tr_lst; walk_at "st")) | (show idxX _ _ _ _; first | refine ix_tupN rfl ?_ | refine ix_fzN rfl ?_ | (apply ix_lstN; walk_at "st"; focus rfl) | refine ix_tup rfl ?_ | refine ix_fz rfl ?_ | (apply ix_lst; walk_at "st"; focus rfl)) | (show bltX _ _ _ _; first | refine bl_lenT ?_ | refine bl_lenF ?_ | (apply bl_lenL; walk_at "st") | refine bl_tupF ?_ | refine bl_tupT ?_ | (apply bl_tupL; walk_at "st") | refine bl_lstT ?_ | refine bl_lstF ?_ | (apply bl_lstL; walk_at "st") | (apply bl_lstD; walk_at "st") | refine bl_any ?_ | refine bl_all ?_ | refine bl_int ?_ | refine bl_intB ?_ | refine bl_bool ?_ | refine bl_boolB ?_ | refine bl_abs ?_ | refine bl_min ?_ | refine bl_max ?_) | (first | (show taX _ _ _ _ _; first | refine ta_tup ?_ | (refine ta_nm ?_; first | refine tg_nm ?_)) | (show tgX _ _ _ _; first | refine tg_tp ?_ | refine tg_tpu ?_ | refine tg_nm ?_) | (show tgsX _ _ _ _; first | refine tgs_cons ?_ | refine tgs_nil ?_) | (show itX _ _ _ _ _ _; first | refine it_val ?_ | refine it_rg1 ?_ | refine it_rg2 ?_ | refine it_enum ?_ | refine it_zip ?_ | refine it_rgd ?_ | refine it_rev ?_) | (show itvX _ _ _; first | refine iv_tup ?_ | refine iv_fz ?_ | (apply iv_lst; walk_at "st")) | (show itlX _ _ _; first | refine il_fz ?_ | (apply il_lst; walk_at "st")) | (show zipX _ _ _ _; first | refine iz_tup ?_ | refine iz_fz ?_) | (show ocX _ _ _ _ _; first | refine oc_no ?_ | refine oc_yes ?_) | (show oeX _ _ _ _ _ _; first | refine oe_no ?_ | refine oe_yes ?_) | (show isiX _ _ _ _; first | refine ii (c := true) rfl ?_ | refine ii (c := false) rfl ?_ | (apply ii_lst (c := false); walk_at "st"; focus rfl) | (apply ii_lst (c := true); walk_at "st"; focus rfl)) | (show frX _ _ _; first | refine fr_bl ?_ | refine fr_int ?_ | refine fr_tup ?_ | refine fr_fz ?_ | refine fr_non ?_ | refine fr_str ?_ | (apply fr_ref; walk_at "st")) | (show augX _ _ _ _ _; refine a_int ?_ (by decide)) | (show slcX _ _ _ _ _; first | refine sl_tup ?_ | refine sl_fz ?_ | (apply sl_lst; walk_at "st")) | (show subX _ _ _ _ _; apply su_lstN; walk_at "st"; focus (simp; done))) | (first | (apply rcv_l; walk_at "st"; focus decide) | refine rcv_bits ?_ | refine rcv_fi ?_ | refine rcv_fc ?_ | refine rcv_tc ?_ | (apply rcv_d; walk_at "st") | refine mt_bits ?_) | with_reducible refine if_t ?_ | with_reducible refine if_f ?_ | with_reducible refine if_nt ?_ | with_reducible refine if_nf ?_ | (show rgX _ _; refine rg_n (by first | decide | omega) ?_) | (show rg2X _ _ _; refine rg2_n (by first | decide | omega) ?_) | (show rglX _ _ _; refine rgl_n (by first | decide | omega) ?_) | (show rgtX _ _ _; refine rgt_n (by first | decide | omega) ?_) | (show slrX _ _ _; first | refine slr_tup ?_ | refine slr_fz ?_ | (apply slr_lst; walk_at "st")) | refine rv_tup ?_ | refine rv_fz ?_ | refine eq_int ?_ | refine len_ok ?_ (Nat.le_of_ble_eq_true rfl) | refine bk_mt ?_)
  | `(tactic| walk_at "e") => `(tactic| first | (first | (show exX _ _ _ _ _ _; first | refine ex_var ?_ rfl | refine ex_int (b := ((_ : Nat) : Int)) ?_ | refine ex_call ?_ | refine ex_bin ?_ | refine ex_cmp ?_ | refine ex_idx ?_ | refine ex_tup ?_ | refine ex_lst ?_ | refine ex_blt ?_ | refine ex_mth ?_ | refine ex_and ?_ | refine ex_or ?_ | refine ex_not ?_ | refine ex_neg ?_ | refine ex_inv ?_ | refine ex_chn ?_ | refine ex_slc ?_ | refine ex_isi ?_ | refine ex_lc ?_ | refine ex_non ?_ | refine ex_bl ?_ | refine ex_str ?_ | refine ex_dic0 ?_ | refine ex_dic1 ?_ | refine ex_rgl ?_ | refine ex_rgt ?_ | refine ex_revl ?_ | refine ex_slr ?_ | refine ex_cst ?_ | refine ex_cix ?_ | refine ex_int ?_) | (show exsX _ _ _ _ _ _; first | refine exs_cons ?_ | refine exs_nil ?_) | (show sxX _ _ _ _ _; first | refine st_asg' ?_ | refine st_exp' ?_ | refine st_ret' ?_ | refine st_for' ?_ | (show sxX _ (.aug _ _ _) _ _ _; first | refine st_aug' ?_ rfl) | refine st_sub' ?_ | refine st_retn' ?_ | refine st_augs' ?_ | refine st_brk' ?_ | refine st_cnt' ?_ | refine st_pss' ?_ | refine st_rse' ?_ | refine st_tryA' ?_ | refine st_tryO' ?_) | (show sxsX _ _ _ _ _; first | refine ss_cons' ?_ | refine ss_nil' ?_) | (show binX _ _ _ _ _; first | refine b_addN ?_ | refine b_orN ?_ | refine b_andN ?_ | refine b_dif ?_ | refine b_shrN ?_ | refine b_shlN ?_ ⟨by first | decide | omega, by first | decide | omega⟩ | refine b_subN ?_ (by omega) | refine b_modN ?_ (by first | decide | omega) | refine b_divS ?_ (by first | decide | omega) | refine b_mulN ?_ (by assumption) | refine b_addT ?_ (Nat.le_of_ble_eq_true rfl) | refine b_addF ?_ (Nat.le_of_ble_eq_true rfl) | refine b_add ?_ | refine b_addB ?_ | refine b_sub ?_ | refine b_and ?_ | refine b_or ?_ | refine b_xor ?_) | (show cmpX _ _ _ _ _; first | refine c_eqN ?_ | refine c_neN ?_ | refine c_ltN ?_ | refine c_leN ?_ | refine c_gtN ?_ | refine c_geN ?_ | refine c_lt ?_ | refine c_le ?_ | refine c_gt ?_ | refine c_ge ?_ | refine c_eqI ?_ | refine c_neI ?_ | refine c_eqb ?_ | refine c_neb ?_ | refine c_isN ?_ | refine c_isnN ?_ | refine c_isn (by simp) ?_ | refine c_isnn (by simp) ?_) | (show truX _ _ _; first | refine tr_bl ?_ | refine tr_bit ?_ | refine tr_nat ?_ | refine tr_int ?_ | refine tr_non ?_ | refine tr_tup ?_ | refine tr_fz ?_ | (apply tr_lst; walk_at "st")) | (show idxX _ _ _ _; first | refine ix_tupN rfl ?_ | refine ix_fzN rfl ?_ | (apply ix_lstN; walk_at "st"; focus rfl) | refine ix_tup rfl ?_ | refine ix_fz rfl ?_ | (apply ix_lst; walk_at "st"; focus rfl)) | (show bltX _ _ _ _; first | refine bl_lenT ?_ | refine bl_lenF ?_ | (apply bl_lenL; walk_at "st") | refine bl_tupF ?_ | refine bl_tupT ?_ | (apply bl_tupL; walk_at "st") | refine bl_lstT ?_ | refine bl_lstF ?_ | (apply bl_lstL; walk_at "st") | (apply bl_lstD; walk_at "st") | refine bl_any ?_ | refine bl_all ?_ | refine bl_int ?_ | refine bl_intB ?_ | refine bl_bool ?_ | refine bl_boolB ?_ | refine bl_abs ?_ | refine bl_min ?_ | refine bl_max ?_) | (first | (show taX _ _ _ _ _; first | refine ta_tup ?_ | (refine ta_nm ?_; first | refine tg_nm ?_)) | (show tgX _ _ _ _; first | refine tg_tp ?_ | refine tg_tpu ?_ | refine tg_nm ?_) | (show tgsX _ _ _ _; first | refine tgs_cons ?_ | refine tgs_nil ?_) | (show itX _ _ _ _ _ _; first | refine it_val ?_ | refine it_rg1 ?_ | refine it_rg2 ?_ | refine it_enum ?_ | refine it_zip ?_ | refine it_rgd ?_ | refine it_rev ?_) | (show itvX _ _ _; first | refine iv_tup ?_ | refine iv_fz ?_ | (apply iv_lst; walk_at "st")) | (show itlX _ _ _; first | refine il_fz ?_ | (apply il_lst; walk_at "st")) | (show zipX _ _ _ _; first | refine iz_tup ?_ | refine iz_fz ?_) | (show ocX _ _ _ _ _; first | refine oc_no ?_ | refine oc_yes ?_) | (show oeX _ _ _ _ _ _; first | refine oe_no ?_ | refine oe_yes ?_) | (show isiX _ _ _ _; first | refine ii (c := true) rfl ?_ | refine ii (c := false) rfl ?_ | (apply ii_lst (c := false); walk_at "st"; focus rfl) | (apply ii_lst (c := true); walk_at "st"; focus rfl)) | (show frX _ _ _; first | refine fr_bl ?_ | refine fr_int ?_ | refine fr_tup ?_ | refine fr_fz ?_ | refine fr_non ?_ | refine fr_str ?_ | (apply fr_ref; walk_at "st")) | (show augX _ _ _ _ _; refine a_int ?_ (by decide)) | (show slcX _ _ _ _ _; first | refine sl_tup ?_ | refine sl_fz ?_ | (apply sl_lst; walk_at "st")) | (show subX _ _ _ _ _; apply su_lstN; walk_at "st"; focus (simp; done))) | (first | (apply rcv_l; walk_at "st"; focus decide) | refine rcv_bits ?_ | refine rcv_fi ?_ | refine rcv_fc ?_ | refine rcv_tc ?_ | (apply rcv_d; walk_at "st") | refine mt_bits ?_) | with_reducible refine if_t ?_ | with_reducible refine if_f ?_ | with_reducible refine if_nt ?_ | with_reducible refine if_nf ?_ | (show rgX _ _; refine rg_n (by first | decide | omega) ?_) | (show rg2X _ _ _; refine rg2_n (by first | decide | omega) ?_) | (show rglX _ _ _; refine rgl_n (by first | decide | omega) ?_) | (show rgtX _ _ _; refine rgt_n (by first | decide | omega) ?_) | (show slrX _ _ _; first | refine slr_tup ?_ | refine slr_fz ?_ | (apply slr_lst; walk_at "st")) | refine rv_tup ?_ | refine rv_fz ?_ | refine eq_int ?_ | refine len_ok ?_ (Nat.le_of_ble_eq_true rfl) | refine bk_mt ?_) | refine ex_ite ?_ | refine st_if' ?_)
  | `(tactic| walk_at "i*") => `(tactic| repeat ((first | (show exX _ _ _ _ _ _; first | refine ex_var ?_ rfl | refine ex_int (b := ((_ : Nat) : Int)) ?_ | refine ex_call ?_ | refine ex_bin ?_ | refine ex_cmp ?_ | refine ex_idx ?_ | refine ex_tup ?_ | refine ex_lst ?_ | refine ex_blt ?_ | refine ex_mth ?_ | refine ex_and ?_ | refine ex_or ?_ | refine ex_not ?_ | refine ex_neg ?_ | refine ex_inv ?_ | refine ex_chn ?_ | refine ex_slc ?_ | refine ex_isi ?_ | refine ex_lc ?_ | refine ex_non ?_ | refine ex_bl ?_ | refine ex_str ?_ | refine ex_dic0 ?_ | refine ex_dic1 ?_ | refine ex_rgl ?_ | refine ex_rgt ?_ | refine ex_revl ?_ | refine ex_slr ?_ | refine ex_cst ?_ | refine ex_cix ?_ | refine ex_int ?_) | (show exsX _ _ _ _ _ _; first | refine exs_cons ?_ | refine exs_nil ?_) | (show sxX _ _ _ _ _; first | refine st_asg' ?_ | refine st_exp' ?_ | refine st_ret' ?_ | refine st_for' ?_ | (show sxX _ (.aug _ _ _) _ _ _; first | refine st_aug' ?_ rfl) | refine st_sub' ?_ | refine st_retn' ?_ | refine st_augs' ?_ | refine st_brk' ?_ | refine st_cnt' ?_ | refine st_pss' ?_ | refine st_rse' ?_ | refine st_tryA' ?_ | refine st_tryO' ?_) | (show sxsX _ _ _ _ _; first | refine ss_cons' ?_ | refine ss_nil' ?_) | (show binX _ _ _ _ _; first | refine b_addN ?_ | refine b_orN ?_ | refine b_andN ?_ | refine b_dif ?_ | refine b_shrN ?_ | refine b_shlN ?_ ⟨by first | decide | omega, by first | decide | omega⟩ | refine b_subN ?_ (by omega) | refine b_modN ?_ (by first | decide | omega) | refine b_divS ?_ (by first | decide | omega) | refine b_mulN ?_ (by assumption) | refine b_addT ?_ (Nat.le_of_ble_eq_true rfl) | refine b_addF ?_ (Nat.le_of_ble_eq_true rfl) | refine b_add ?_ | refine b_addB ?_ | refine b_sub ?_ | refine b_and ?_ | refine b_or ?_ | refine b_xor ?_) | (show cmpX _ _ _ _ _; first | refine c_eqN ?_ | refine c_neN ?_ | refine c_ltN ?_ | refine c_leN ?_ | refine c_gtN ?_ | refine c_geN ?_ | refine c_lt ?_ | refine c_le ?_ | refine c_gt ?_ | refine c_ge ?_ | refine c_eqI ?_ | refine c_neI ?_ | refine c_eqb ?_ | refine c_neb ?_ | refine c_isN ?_ | refine c_isnN ?_ | refine c_isn (by simp) ?_ | refine c_isnn (by simp) ?_) | (show truX _ _ _; first | refine tr_bl ?_ | refine tr_bit ?_ | refine tr_nat ?_ | refine tr_int ?_ | refine tr_non ?_ | refine tr_tup ?_ | refine tr_fz ?_ | (apply tr_lst; walk_at "st")) | (show idxX _ _ _ _; first | refine ix_tupN rfl ?_ | refine ix_fzN rfl ?_ | (apply ix_lstN; walk_at "st"; focus rfl) | refine ix_tup rfl ?_ | refine ix_fz rfl ?_ | (apply ix_lst; walk_at "st"; focus rfl)) | (show bltX _ _ _ _; first | refine bl_lenT ?_ | refine bl_lenF ?_ | (apply bl_lenL; walk_at "st") | refine bl_tupF ?_ | refine bl_tupT ?_ | (apply bl_tupL; walk_at "st") | refine bl_lstT ?_ | refine bl_lstF ?_ | (apply bl_lstL; walk_at "st") | (apply bl_lstD; walk_at "st") | refine bl_any ?_ | refine bl_all ?_ | refine bl_int ?_ | refine bl_intB ?_ | refine bl_bool ?_ | refine bl_boolB ?_ | refine bl_abs ?_ | refine bl_min ?_ | refine bl_max ?_) | (first | (show taX _ _ _ _ _; first | refine ta_tup ?_ | (refine ta_nm ?_; first | refine tg_nm ?_)) | (show tgX _ _ _ _; first | refine tg_tp ?_ | refine tg_tpu ?_ | refine tg_nm ?_) | (show tgsX _ _ _ _; first | refine tgs_cons ?_ | refine tgs_nil ?_) | (show itX _ _ _ _ _ _; first | refine it_val ?_ | refine it_rg1 ?_ | refine it_rg2 ?_ | refine it_enum ?_ | refine it_zip ?_ | refine it_rgd ?_ | refine it_rev ?_) | (show itvX _ _ _; first | refine iv_tup ?_ | refine iv_fz ?_ | (apply iv_lst; walk_at "st")) | (show itlX _ _ _; first | refine il_fz ?_ | (apply il_lst; walk_at "st")) | (show zipX _ _ _ _; first | refine iz_tup ?_ | refine iz_fz ?_) | (show ocX _ _ _ _ _; first | refine oc_no ?_ | refine oc_yes ?_) | (show oeX _ _ _ _ _ _; first | refine oe_no ?_ | refine oe_yes ?_) | (show isiX _ _ _ _; first | refine ii (c := true) rfl ?_ | refine ii (c := false) rfl ?_ | (apply ii_lst (c := false); walk_at "st"; focus rfl) | (apply ii_lst (c := true); walk_at "st"; focus rfl)) | (show frX _ _ _; first | refine fr_bl ?_ | refine fr_int ?_ | refine fr_tup ?_ | refine fr_fz ?_ | refine fr_non ?_ | refine fr_str ?_ | (apply fr_ref; walk_at "st")) | (show augX _ _ _ _ _; refine a_int ?_ (by decide)) | (show slcX _ _ _ _ _; first | refine sl_tup ?_ | refine sl_fz ?_ | (apply sl_lst; walk_at "st")) | (show subX _ _ _ _ _; apply su_lstN; walk_at "st"; focus (simp; done))) | (first | (apply rcv_l; walk_at "st"; focus decide) | refine rcv_bits ?_ | refine rcv_fi ?_ | refine rcv_fc ?_ | refine rcv_tc ?_ | (apply rcv_d; walk_at "st") | refine mt_bits ?_) | with_reducible refine if_t ?_ | with_reducible refine if_f ?_ | with_reducible refine if_nt ?_ | with_reducible refine if_nf ?_ | (show rgX _ _; refine rg_n (by first | decide | omega) ?_) | (show rg2X _ _ _; refine rg2_n (by first | decide | omega) ?_) | (show rglX _ _ _; refine rgl_n (by first | decide | omega) ?_) | (show rgtX _ _ _; refine rgt_n (by first | decide | omega) ?_) | (show slrX _ _ _; first | refine slr_tup ?_ | refine slr_fz ?_ | (apply slr_lst; walk_at "st")) | refine rv_tup ?_ | refine rv_fz ?_ | refine eq_int ?_ | refine len_ok ?_ (Nat.le_of_ble_eq_true rfl) | refine bk_mt ?_)))
  | `(tactic| walk_at "f") => `(tactic| first | (first | (first | (show exX _ _ _ _ _ _; first | refine ex_var ?_ rfl | refine ex_int (b := ((_ : Nat) : Int)) ?_ | refine ex_call ?_ | refine ex_bin ?_ | refine ex_cmp ?_ | refine ex_idx ?_ | refine ex_tup ?_ | refine ex_lst ?_ | refine ex_blt ?_ | refine ex_mth ?_ | refine ex_and ?_ | refine ex_or ?_ | refine ex_not ?_ | refine ex_neg ?_ | refine ex_inv ?_ | refine ex_chn ?_ | refine ex_slc ?_ | refine ex_isi ?_ | refine ex_lc ?_ | refine ex_non ?_ | refine ex_bl ?_ | refine ex_str ?_ | refine ex_dic0 ?_ | refine ex_dic1 ?_ | refine ex_rgl ?_ | refine ex_rgt ?_ | refine ex_revl ?_ | refine ex_slr ?_ | refine ex_cst ?_ | refine ex_cix ?_ | refine ex_int ?_) | (show exsX _ _ _ _ _ _; first | refine exs_cons ?_ | refine exs_nil ?_) | (show sxX _ _ _ _ _; first | refine st_asg' ?_ | refine st_exp' ?_ | refine st_ret' ?_ | refine st_for' ?_ | (show sxX _ (.aug _ _ _) _ _ _; first | refine st_aug' ?_ rfl) | refine st_sub' ?_ | refine st_retn' ?_ | refine st_augs' ?_ | refine st_brk' ?_ | refine st_cnt' ?_ | refine st_pss' ?_ | refine st_rse' ?_ | refine st_tryA' ?_ | refine st_tryO' ?_) | (show sxsX _ _ _ _ _; first | refine ss_cons' ?_ | refine ss_nil' ?_) | (show binX _ _ _ _ _; first | refine b_addN ?_ | refine b_orN ?_ | refine b_andN ?_ | refine b_dif ?_ | refine b_shrN ?_ | refine b_shlN ?_ ⟨by first | decide | omega, by first | decide | omega⟩ | refine b_subN ?_ (by omega) | refine b_modN ?_ (by first | decide | omega) | refine b_divS ?_ (by first | decide | omega) | refine b_mulN ?_ (by assumption) | refine b_addT ?_ (Nat.le_of_ble_eq_true rfl) | refine b_addF ?_ (Nat.le_of_ble_eq_true rfl) | refine b_add ?_ | refine b_addB ?_ | refine b_sub ?_ | refine b_and ?_ | refine b_or ?_ | refine b_xor ?_) | (show cmpX _ _ _ _ _; first | refine c_eqN ?_ | refine c_neN ?_ | refine c_ltN ?_ | refine c_leN ?_ | refine c_gtN ?_ | refine c_geN ?_ | refine c_lt ?_ | refine c_le ?_ | refine c_gt ?_ | refine c_ge ?_ | refine c_eqI ?_ | refine c_neI ?_ | refine c_eqb ?_ | refine c_neb ?_ | refine c_isN ?_ | refine c_isnN ?_ | refine c_isn (by simp) ?_ | refine c_isnn (by simp) ?_) | (show truX _ _ _; first | refine tr_bl ?_ | refine tr_bit ?_ | refine tr_nat ?_ | refine tr_int ?_ | refine tr_non ?_ | refine tr_tup ?_ | refine tr_fz ?_ | (apply tr_lst; walk_at "st")) | (show idxX _ _ _ _; first | refine ix_tupN rfl ?_ | refine ix_fzN rfl ?_ | (apply ix_lstN; walk_at "st"; focus rfl) | refine ix_tup rfl ?_ | refine ix_fz rfl ?_ | (apply ix_lst; walk_at "st"; focus rfl)) | (show bltX _ _ _ _; first | refine bl_lenT ?_ | refine bl_lenF ?_ | (apply bl_lenL; walk_at "st") | refine bl_tupF ?_ | refine bl_tupT ?_ | (apply bl_tupL; walk_at "st") | refine bl_lstT ?_ | refine bl_lstF ?_ | (apply bl_lstL; walk_at "st") | (apply bl_lstD; walk_at "st") | refine bl_any ?_ | refine bl_all ?_ | refine bl_int ?_ | refine bl_intB ?_ | refine bl_bool ?_ | refine bl_boolB ?_ | refine bl_abs ?_ | refine bl_min ?_ | refine bl_max ?_) | (first | (show taX _ _ _ _ _; first | refine ta_tup ?_ | (refine ta_nm ?_; first | refine tg_nm ?_)) | (show tgX _ _ _ _; first | refine tg_tp ?_ | refine tg_tpu ?_ | refine tg_nm ?_) | (show tgsX _ _ _ _; first | refine tgs_cons ?_ | refine tgs_nil ?_) | (show itX _ _ _ _ _ _; first | refine it_val ?_ | refine it_rg1 ?_ | refine it_rg2 ?_ | refine it_enum ?_ | refine it_zip ?_ | refine it_rgd ?_ | refine it_rev ?_) | (show itvX _ _ _; first | refine iv_tup ?_ | refine iv_fz ?_ | (apply iv_lst; walk_at "st")) | (show itlX _ _ _; first | refine il_fz ?_ | (apply il_lst; walk_at "st")) | (show zipX _ _ _ _; first | refine iz_tup ?_ | refine iz_fz ?_) | (show ocX _ _ _ _ _; first | refine oc_no ?_ | refine oc_yes ?_) | (show oeX _ _ _ _ _ _; first | refine oe_no ?_ | refine oe_yes ?_) | (show isiX _ _ _ _; first | refine ii (c := true) rfl ?_ | refine ii (c := false) rfl ?_ | (apply ii_lst (c := false); walk_at "st"; focus rfl) | (apply ii_lst (c := true); walk_at "st"; focus rfl)) | (show frX _ _ _; first | refine fr_bl ?_ | refine fr_int ?_ | refine fr_tup ?_ | refine fr_fz ?_ | refine fr_non ?_ | refine fr_str ?_ | (apply fr_ref; walk_at "st")) | (show augX _ _ _ _ _; refine a_int ?_ (by decide)) | (show slcX _ _ _ _ _; first | refine sl_tup ?_ | refine sl_fz ?_ | (apply sl_lst; walk_at "st")) | (show subX _ _ _ _ _; apply su_lstN; walk_at "st"; focus (simp; done))) | (first | (apply rcv_l; walk_at "st"; focus decide) | refine rcv_bits ?_ | refine rcv_fi ?_ | refine rcv_fc ?_ | refine rcv_tc ?_ | (apply rcv_d; walk_at "st") | refine mt_bits ?_) | with_reducible refine if_t ?_ | with_reducible refine if_f ?_ | with_reducible refine if_nt ?_ | with_reducible refine if_nf ?_ | (show rgX _ _; refine rg_n (by first | decide | omega) ?_) | (show rg2X _ _ _; refine rg2_n (by first | decide | omega) ?_) | (show rglX _ _ _; refine rgl_n (by first | decide | omega) ?_) | (show rgtX _ _ _; refine rgt_n (by first | decide | omega) ?_) | (show slrX _ _ _; first | refine slr_tup ?_ | refine slr_fz ?_ | (apply slr_lst; walk_at "st")) | refine rv_tup ?_ | refine rv_fz ?_ | refine eq_int ?_ | refine len_ok ?_ (Nat.le_of_ble_eq_true rfl) | refine bk_mt ?_) | refine ex_ite ?_ | refine st_if' ?_) | refine nl_fz ?_)
  | `(tactic| walk_at "e*") => `(tactic| repeat ((first | (first | (show exX _ _ _ _ _ _; first | refine ex_var ?_ rfl | refine ex_int (b := ((_ : Nat) : Int)) ?_ | refine ex_call ?_ | refine ex_bin ?_ | refine ex_cmp ?_ | refine ex_idx ?_ | refine ex_tup ?_ | refine ex_lst ?_ | refine ex_blt ?_ | refine ex_mth ?_ | refine ex_and ?_ | refine ex_or ?_ | refine ex_not ?_ | refine ex_neg ?_ | refine ex_inv ?_ | refine ex_chn ?_ | refine ex_slc ?_ | refine ex_isi ?_ | refine ex_lc ?_ | refine ex_non ?_ | refine ex_bl ?_ | refine ex_str ?_ | refine ex_dic0 ?_ | refine ex_dic1 ?_ | refine ex_rgl ?_ | refine ex_rgt ?_ | refine ex_revl ?_ | refine ex_slr ?_ | refine ex_cst ?_ | refine ex_cix ?_ | refine ex_int ?_) | (show exsX _ _ _ _ _ _; first | refine exs_cons ?_ | refine exs_nil ?_) | (show sxX _ _ _ _ _; first | refine st_asg' ?_ | refine st_exp' ?_ | refine st_ret' ?_ | refine st_for' ?_ | (show sxX _ (.aug _ _ _) _ _ _; first | refine st_aug' ?_ rfl) | refine st_sub' ?_ | refine st_retn' ?_ | refine st_augs' ?_ | refine st_brk' ?_ | refine st_cnt' ?_ | refine st_pss' ?_ | refine st_rse' ?_ | refine st_tryA' ?_ | refine st_tryO' ?_) | (show sxsX _ _ _ _ _; first | refine ss_cons' ?_ | refine ss_nil' ?_) | (show binX _ _ _ _ _; first | refine b_addN ?_ | refine b_orN ?_ | refine b_andN ?_ | refine b_dif ?_ | refine b_shrN ?_ | refine b_shlN ?_ ⟨by first | decide | omega, by first | decide | omega⟩ | refine b_subN ?_ (by omega) | refine b_modN ?_ (by first | decide | omega) | refine b_divS ?_ (by first | decide | omega) | refine b_mulN ?_ (by assumption) | refine b_addT ?_ (Nat.le_of_ble_eq_true rfl) | refine b_addF ?_ (Nat.le_of_ble_eq_true rfl) | refine b_add ?_ | refine b_addB ?_ | refine b_sub ?_ | refine b_and ?_ | refine b_or ?_ | refine b_xor ?_) | (show cmpX _ _ _ _ _; first | refine c_eqN ?_ | refine c_neN ?_ | refine c_ltN ?_ | refine c_leN ?_ | refine c_gtN ?_ | refine c_geN ?_ | refine c_lt ?_ | refine c_le ?_ | refine c_gt ?_ | refine c_ge ?_ | refine c_eqI ?_ | refine c_neI ?_ | refine c_eqb ?_ | refine c_neb ?_ | refine c_isN ?_ | refine c_isnN ?_ | refine c_isn (by simp) ?_ | refine c_isnn (by simp) ?_) | (show truX _ _ _; first | refine tr_bl ?_ | refine tr_bit ?_ | refine tr_nat ?_ | refine tr_int ?_ | refine tr_non ?_ | refine tr_tup ?_ | refine tr_fz ?_ | (apply tr_lst; walk_at "st")) | (show idxX _ _ _ _; first | refine ix_tupN rfl ?_ | refine ix_fzN rfl ?_ | (apply ix_lstN; walk_at "st"; focus rfl) | refine ix_tup rfl ?_ | refine ix_fz rfl ?_ | (apply ix_lst; walk_at "st"; focus rfl)) | (show bltX _ _ _ _; first | refine bl_lenT ?_ | refine bl_lenF ?_ | (apply bl_lenL; walk_at "st") | refine bl_tupF ?_ | refine bl_tupT ?_ | (apply bl_tupL; walk_at "st") | refine bl_lstT ?_ | refine bl_lstF ?_ | (apply bl_lstL; walk_at "st") | (apply bl_lstD; walk_at "st") | refine bl_any ?_ | refine bl_all ?_ | refine bl_int ?_ | refine bl_intB ?_ | refine bl_bool ?_ | refine bl_boolB ?_ | refine bl_abs ?_ | refine bl_min ?_ | refine bl_max ?_) | (first | (show taX _ _ _ _ _; first | refine ta_tup ?_ | (refine ta_nm ?_; first | refine tg_nm ?_)) | (show tgX _ _ _ _; first | refine tg_tp ?_ | refine tg_tpu ?_ | refine tg_nm ?_) | (show tgsX _ _ _ _; first | refine tgs_cons ?_ | refine tgs_nil ?_) | (show itX _ _ _ _ _ _; first | refine it_val ?_ | refine it_rg1 ?_ | refine it_rg2 ?_ | refine it_enum ?_ | refine it_zip ?_ | refine it_rgd ?_ | refine it_rev ?_) | (show itvX _ _ _; first | refine iv_tup ?_ | refine iv_fz ?_ | (apply iv_lst; walk_at "st")) | (show itlX _ _ _; first | refine il_fz ?_ | (apply il_lst; walk_at "st")) | (show zipX _ _ _ _; first | refine iz_tup ?_ | refine iz_fz ?_) | (show ocX _ _ _ _ _; first | refine oc_no ?_ | refine oc_yes ?_) | (show oeX _ _ _ _ _ _; first | refine oe_no ?_ | refine oe_yes ?_) | (show isiX _ _ _ _; first | refine ii (c := true) rfl ?_ | refine ii (c := false) rfl ?_ | (apply ii_lst (c := false); walk_at "st"; focus rfl) | (apply ii_lst (c := true); walk_at "st"; focus rfl)) | (show frX _ _ _; first | refine fr_bl ?_ | refine fr_int ?_ | refine fr_tup ?_ | refine fr_fz ?_ | refine fr_non ?_ | refine fr_str ?_ | (apply fr_ref; walk_at "st")) | (show augX _ _ _ _ _; refine a_int ?_ (by decide)) | (show slcX _ _ _ _ _; first | refine sl_tup ?_ | refine sl_fz ?_ | (apply sl_lst; walk_at "st")) | (show subX _ _ _ _ _; apply su_lstN; walk_at "st"; focus (simp; done))) | (first | (apply rcv_l; walk_at "st"; focus decide) | refine rcv_bits ?_ | refine rcv_fi ?_ | refine rcv_fc ?_ | refine rcv_tc ?_ | (apply rcv_d; walk_at "st") | refine mt_bits ?_) | with_reducible refine if_t ?_ | with_reducible refine if_f ?_ | with_reducible refine if_nt ?_ | with_reducible refine if_nf ?_ | (show rgX _ _; refine rg_n (by first | decide | omega) ?_) | (show rg2X _ _ _; refine rg2_n (by first | decide | omega) ?_) | (show rglX _ _ _; refine rgl_n (by first | decide | omega) ?_) | (show rgtX _ _ _; refine rgt_n (by first | decide | omega) ?_) | (show slrX _ _ _; first | refine slr_tup ?_ | refine slr_fz ?_ | (apply slr_lst; walk_at "st")) | refine rv_tup ?_ | refine rv_fz ?_ | refine eq_int ?_ | refine len_ok ?_ (Nat.le_of_ble_eq_true rfl) | refine bk_mt ?_) | refine ex_ite ?_ | refine st_if' ?_)))
  | `(tactic| walk_at "f*") => `(tactic| repeat ((first | (first | (first | (show exX _ _ _ _ _ _; first | refine ex_var ?_ rfl | refine ex_int (b := ((_ : Nat) : Int)) ?_ | refine ex_call ?_ | refine ex_bin ?_ | refine ex_cmp ?_ | refine ex_idx ?_ | refine ex_tup ?_ | refine ex_lst ?_ | refine ex_blt ?_ | refine ex_mth ?_ | refine ex_and ?_ | refine ex_or ?_ | refine ex_not ?_ | refine ex_neg ?_ | refine ex_inv ?_ | refine ex_chn ?_ | refine ex_slc ?_ | refine ex_isi ?_ | refine ex_lc ?_ | refine ex_non ?_ | refine ex_bl ?_ | refine ex_str ?_ | refine ex_dic0 ?_ | refine ex_dic1 ?_ | refine ex_rgl ?_ | refine ex_rgt ?_ | refine ex_revl ?_ | refine ex_slr ?_ | refine ex_cst ?_ | refine ex_cix ?_ | refine ex_int ?_) | (show exsX _ _ _ _ _ _; first | refine exs_cons ?_ | refine exs_nil ?_) | (show sxX _ _ _ _ _; first | refine st_asg' ?_ | refine st_exp' ?_ | refine st_ret' ?_ | refine st_for' ?_ | (show sxX _ (.aug _ _ _) _ _ _; first | refine st_aug' ?_ rfl) | refine st_sub' ?_ | refine st_retn' ?_ | refine st_augs' ?_ | refine st_brk' ?_ | refine st_cnt' ?_ | refine st_pss' ?_ | refine st_rse' ?_ | refine st_tryA' ?_ | refine st_tryO' ?_) | (show sxsX _ _ _ _ _; first | refine ss_cons' ?_ | refine ss_nil' ?_) | (show binX _ _ _ _ _; first | refine b_addN ?_ | refine b_orN ?_ | refine b_andN ?_ | refine b_dif ?_ | refine b_shrN ?_ | refine b_shlN ?_ ⟨by first | decide | omega, by first | decide | omega⟩ | refine b_subN ?_ (by omega) | refine b_modN ?_ (by first | decide | omega) | refine b_divS ?_ (by first | decide | omega) | refine b_mulN ?_ (by assumption) | refine b_addT ?_ (Nat.le_of_ble_eq_true rfl) | refine b_addF ?_ (Nat.le_of_ble_eq_true rfl) | refine b_add ?_ | refine b_addB ?_ | refine b_sub ?_ | refine b_and ?_ | refine b_or ?_ | refine b_xor ?_) | (show cmpX _ _ _ _ _; first | refine c_eqN ?_ | refine c_neN ?_ | refine c_ltN ?_ | refine c_leN ?_ | refine c_gtN ?_ | refine c_geN ?_ | refine c_lt ?_ | refine c_le ?_ | refine c_gt ?_ | refine c_ge ?_ | refine c_eqI ?_ | refine c_neI ?_ | refine c_eqb ?_ | refine c_neb ?_ | refine c_isN ?_ | refine c_isnN ?_ | refine c_isn (by simp) ?_ | refine c_isnn (by simp) ?_) | (show truX _ _ _; first | refine tr_bl ?_ | refine tr_bit ?_ | refine tr_nat ?_ | refine tr_int ?_ | refine tr_non ?_ | refine tr_tup ?_ | refine tr_fz ?_ | (apply tr_lst; walk_at "st")) | (show idxX _ _ _ _; first | refine ix_tupN rfl ?_ | refine ix_fzN rfl ?_ | (apply ix_lstN; walk_at "st"; focus rfl) | refine ix_tup rfl ?_ | refine ix_fz rfl ?_ | (apply ix_lst; walk_at "st"; focus rfl)) | (show bltX _ _ _ _; first | refine bl_lenT ?_ | refine bl_lenF ?_ | (apply bl_lenL; walk_at "st") | refine bl_tupF ?_ | refine bl_tupT ?_ | (apply bl_tupL; walk_at "st") | refine bl_lstT ?_ | refine bl_lstF ?_ | (apply bl_lstL; walk_at "st") | (apply bl_lstD; walk_at "st") | refine bl_any ?_ | refine bl_all ?_ | refine bl_int ?_ | refine bl_intB ?_ | refine bl_bool ?_ | refine bl_boolB ?_ | refine bl_abs ?_ | refine bl_min ?_ | refine bl_max ?_) | (first | (show taX _ _ _ _ _; first | refine ta_tup ?_ | (refine ta_nm ?_; first | refine tg_nm ?_)) | (show tgX _ _ _ _; first | refine tg_tp ?_ | refine tg_tpu ?_ | refine tg_nm ?_) | (show tgsX _ _ _ _; first | refine tgs_cons ?_ | refine tgs_nil ?_) | (show itX _ _ _ _ _ _; first | refine it_val ?_ | refine it_rg1 ?_ | refine it_rg2 ?_ | refine it_enum ?_ | refine it_zip ?_ | refine it_rgd ?_ | refine it_rev ?_) | (show itvX _ _ _; first | refine iv_tup ?_ | refine iv_fz ?_ | (apply iv_lst; walk_at "st")) | (show itlX _ _ _; first | refine il_fz ?_ | (apply il_lst; walk_at "st")) | (show zipX _ _ _ _; first | refine iz_tup ?_ | refine iz_fz ?_) | (show ocX _ _ _ _ _; first | refine oc_no ?_ | refine oc_yes ?_) | (show oeX _ _ _ _ _ _; first | refine oe_no ?_ | refine oe_yes ?_) | (show isiX _ _ _ _; first | refine ii (c := true) rfl ?_ | refine ii (c := false) rfl ?_ | (apply ii_lst (c := false); walk_at "st"; focus rfl) | (apply ii_lst (c := true); walk_at "st"; focus rfl)) | (show frX _ _ _; first | refine fr_bl ?_ | refine fr_int ?_ | refine fr_tup ?_ | refine fr_fz ?_ | refine fr_non ?_ | refine fr_str ?_ | (apply fr_ref; walk_at "st")) | (show augX _ _ _ _ _; refine a_int ?_ (by decide)) | (show slcX _ _ _ _ _; first | refine sl_tup ?_ | refine sl_fz ?_ | (apply sl_lst; walk_at "st")) | (show subX _ _ _ _ _; apply su_lstN; walk_at "st"; focus (simp; done))) | (first | (apply rcv_l; walk_at "st"; focus decide) | refine rcv_bits ?_ | refine rcv_fi ?_ | refine rcv_fc ?_ | refine rcv_tc ?_ | (apply rcv_d; walk_at "st") | refine mt_bits ?_) | with_reducible refine if_t ?_ | with_reducible refine if_f ?_ | with_reducible refine if_nt ?_ | with_reducible refine if_nf ?_ | (show rgX _ _; refine rg_n (by first | decide | omega) ?_) | (show rg2X _ _ _; refine rg2_n (by first | decide | omega) ?_) | (show rglX _ _ _; refine rgl_n (by first | decide | omega) ?_) | (show rgtX _ _ _; refine rgt_n (by first | decide | omega) ?_) | (show slrX _ _ _; first | refine slr_tup ?_ | refine slr_fz ?_ | (apply slr_lst; walk_at "st")) | refine rv_tup ?_ | refine rv_fz ?_ | refine eq_int ?_ | refine len_ok ?_ (Nat.le_of_ble_eq_true rfl) | refine bk_mt ?_) | refine ex_ite ?_ | refine st_if' ?_) | refine nl_fz ?_)))
  | `(tactic| walk_at "w") => `(tactic| first | (first | (first | (show exX _ _ _ _ _ _; first | refine ex_var ?_ rfl | refine ex_int (b := ((_ : Nat) : Int)) ?_ | refine ex_call ?_ | refine ex_bin ?_ | refine ex_cmp ?_ | refine ex_idx ?_ | refine ex_tup ?_ | refine ex_lst ?_ | refine ex_blt ?_ | refine ex_mth ?_ | refine ex_and ?_ | refine ex_or ?_ | refine ex_not ?_ | refine ex_neg ?_ | refine ex_inv ?_ | refine ex_chn ?_ | refine ex_slc ?_ | refine ex_isi ?_ | refine ex_lc ?_ | refine ex_non ?_ | refine ex_bl ?_ | refine ex_str ?_ | refine ex_dic0 ?_ | refine ex_dic1 ?_ | refine ex_rgl ?_ | refine ex_rgt ?_ | refine ex_revl ?_ | refine ex_slr ?_ | refine ex_cst ?_ | refine ex_cix ?_ | refine ex_int ?_) | (show exsX _ _ _ _ _ _; first | refine exs_cons ?_ | refine exs_nil ?_) | (show sxX _ _ _ _ _; first | refine st_asg' ?_ | refine st_exp' ?_ | refine st_ret' ?_ | refine st_for' ?_ | (show sxX _ (.aug _ _ _) _ _ _; first | refine st_aug' ?_ rfl) | refine st_sub' ?_ | refine st_retn' ?_ | refine st_augs' ?_ | refine st_brk' ?_ | refine st_cnt' ?_ | refine st_pss' ?_ | refine st_rse' ?_ | refine st_tryA' ?_ | refine st_tryO' ?_) | (show sxsX _ _ _ _ _; first | refine ss_cons' ?_ | refine ss_nil' ?_) | (show binX _ _ _ _ _; first | refine b_addN ?_ | refine b_orN ?_ | refine b_andN ?_ | refine b_dif ?_ | refine b_shrN ?_ | refine b_shlN ?_ ⟨by first | decide | omega, by first | decide | omega⟩ | refine b_subN ?_ (by omega) | refine b_modN ?_ (by first | decide | omega) | refine b_divS ?_ (by first | decide | omega) | refine b_mulN ?_ (by assumption) | refine b_addT ?_ (Nat.le_of_ble_eq_true rfl) | refine b_addF ?_ (Nat.le_of_ble_eq_true rfl) | refine b_add ?_ | refine b_addB ?_ | refine b_sub ?_ | refine b_and ?_ | refine b_or ?_ | refine b_xor ?_) | (show cmpX _ _ _ _ _; first | refine c_eqN ?_ | refine c_neN ?_ | refine c_ltN ?_ | refine c_leN ?_ | refine c_gtN ?_ | refine c_geN ?_ | refine c_lt ?_ | refine c_le ?_ | refine c_gt ?_ | refine c_ge ?_ | refine c_eqI ?_ | refine c_neI ?_ | refine c_eqb ?_ | refine c_neb ?_ | refine c_isN ?_ | refine c_isnN ?_ | refine c_isn (by simp) ?_ | refine c_isnn (by simp) ?_) | (show truX _ _ _; first | refine tr_bl ?_ | refine tr_bit ?_ | refine tr_nat ?_ | refine tr_int ?_ | refine tr_non ?_ | refine tr_tup ?_ | refine tr_fz ?_ | (apply tr_lst; walk_at "st")) | (show idxX _ _ _ _; first | refine ix_tupN rfl ?_ | refine ix_fzN rfl ?_ | (apply ix_lstN; walk_at "st"; focus rfl) | refine ix_tup rfl ?_ | refine ix_fz rfl ?_ | (apply ix_lst; walk_at "st"; focus rfl)) | (show bltX _ _ _ _; first | refine bl_lenT ?_ | refine bl_lenF ?_ | (apply bl_lenL; walk_at "st") | refine bl_tupF ?_ | refine bl_tupT ?_ | (apply bl_tupL; walk_at "st") | refine bl_lstT ?_ | refine bl_lstF ?_ | (apply bl_lstL; walk_at "st") | (apply bl_lstD; walk_at "st") | refine bl_any ?_ | refine bl_all ?_ | refine bl_int ?_ | refine bl_intB ?_ | refine bl_bool ?_ | refine bl_boolB ?_ | refine bl_abs ?_ | refine bl_min ?_ | refine bl_max ?_) | (first | (show taX _ _ _ _ _; first | refine ta_tup ?_ | (refine ta_nm ?_; first | refine tg_nm ?_)) | (show tgX _ _ _ _; first | refine tg_tp ?_ | refine tg_tpu ?_ | refine tg_nm ?_) | (show tgsX _ _ _ _; first | refine tgs_cons ?_ | refine tgs_nil ?_) | (show itX _ _ _ _ _ _; first | refine it_val ?_ | refine it_rg1 ?_ | refine it_rg2 ?_ | refine it_enum ?_ | refine it_zip ?_ | refine it_rgd ?_ | refine it_rev ?_) | (show itvX _ _ _; first | refine iv_tup ?_ | refine iv_fz ?_ | (apply iv_lst; walk_at "st")) | (show itlX _ _ _; first | refine il_fz ?_ | (apply il_lst; walk_at "st")) | (show zipX _ _ _ _; first | refine iz_tup ?_ | refine iz_fz ?_) | (show ocX _ _ _ _ _; first | refine oc_no ?_ | refine oc_yes ?_) | (show oeX _ _ _ _ _ _; first | refine oe_no ?_ | refine oe_yes ?_) | (show isiX _ _ _ _; first | refine ii (c := true) rfl ?_ | refine ii (c := false) rfl ?_ | (apply ii_lst (c := false); walk_at "st"; focus rfl) | (apply ii_lst (c := true); walk_at "st"; focus rfl)) | (show frX _ _ _; first | refine fr_bl ?_ | refine fr_int ?_ | refine fr_tup ?_ | refine fr_fz ?_ | refine fr_non ?_ | refine fr_str ?_ | (apply fr_ref; walk_at "st")) | (show augX _ _ _ _ _; refine a_int ?_ (by decide)) | (show slcX _ _ _ _ _; first | refine sl_tup ?_ | refine sl_fz ?_ | (apply sl_lst; walk_at "st")) | (show subX _ _ _ _ _; apply su_lstN; walk_at "st"; focus (simp; done))) | (first | (apply rcv_l; walk_at "st"; focus decide) | refine rcv_bits ?_ | refine rcv_fi ?_ | refine rcv_fc ?_ | refine rcv_tc ?_ | (apply rcv_d; walk_at "st") | refine mt_bits ?_) | with_reducible refine if_t ?_ | with_reducible refine if_f ?_ | with_reducible refine if_nt ?_ | with_reducible refine if_nf ?_ | (show rgX _ _; refine rg_n (by first | decide | omega) ?_) | (show rg2X _ _ _; refine rg2_n (by first | decide | omega) ?_) | (show rglX _ _ _; refine rgl_n (by first | decide | omega) ?_) | (show rgtX _ _ _; refine rgt_n (by first | decide | omega) ?_) | (show slrX _ _ _; first | refine slr_tup ?_ | refine slr_fz ?_ | (apply slr_lst; walk_at "st")) | refine rv_tup ?_ | refine rv_fz ?_ | refine eq_int ?_ | refine len_ok ?_ (Nat.le_of_ble_eq_true rfl) | refine bk_mt ?_) | refine ex_ite ?_ | refine st_if' ?_) | (show cmpX _ (.str _) _ _ _; first | refine c_eqS2 true (by decide +kernel) ?_ | refine c_eqS2 false (by decide +kernel) ?_ | refine c_neS2 true (by decide +kernel) ?_ | refine c_neS2 false (by decide +kernel) ?_ | refine c_inT (c := true) (by decide +kernel) (by decide +kernel) (by decide +kernel) ?_ | refine c_inT (c := false) (by decide +kernel) (by decide +kernel) (by decide +kernel) ?_ | refine c_niT (c := true) (by decide +kernel) (by decide +kernel) (by decide +kernel) ?_ | refine c_niT (c := false) (by decide +kernel) (by decide +kernel) (by decide +kernel) ?_))
  | `(tactic| walk_at "w*") => `(tactic| repeat ((first | (first | (first | (show exX _ _ _ _ _ _; first | refine ex_var ?_ rfl | refine ex_int (b := ((_ : Nat) : Int)) ?_ | refine ex_call ?_ | refine ex_bin ?_ | refine ex_cmp ?_ | refine ex_idx ?_ | refine ex_tup ?_ | refine ex_lst ?_ | refine ex_blt ?_ | refine ex_mth ?_ | refine ex_and ?_ | refine ex_or ?_ | refine ex_not ?_ | refine ex_neg ?_ | refine ex_inv ?_ | refine ex_chn ?_ | refine ex_slc ?_ | refine ex_isi ?_ | refine ex_lc ?_ | refine ex_non ?_ | refine ex_bl ?_ | refine ex_str ?_ | refine ex_dic0 ?_ | refine ex_dic1 ?_ | refine ex_rgl ?_ | refine ex_rgt ?_ | refine ex_revl ?_ | refine ex_slr ?_ | refine ex_cst ?_ | refine ex_cix ?_ | refine ex_int ?_) | (show exsX _ _ _ _ _ _; first | refine exs_cons ?_ | refine exs_nil ?_) | (show sxX _ _ _ _ _; first | refine st_asg' ?_ | refine st_exp' ?_ | refine st_ret' ?_ | refine st_for' ?_ | (show sxX _ (.aug _ _ _) _ _ _; first | refine st_aug' ?_ rfl) | refine st_sub' ?_ | refine st_retn' ?_ | refine st_augs' ?_ | refine st_brk' ?_ | refine st_cnt' ?_ | refine st_pss' ?_ | refine st_rse' ?_ | refine st_tryA' ?_ | refine st_tryO' ?_) | (show sxsX _ _ _ _ _; first | refine ss_cons' ?_ | refine ss_nil' ?_) | (show binX _ _ _ _ _; first | refine b_addN ?_ | refine b_orN ?_ | refine b_andN ?_ | refine b_dif ?_ | refine b_shrN ?_ | refine b_shlN ?_ ⟨by first | decide | omega, by first | decide | omega⟩ | refine b_subN ?_ (by omega) | refine b_modN ?_ (by first | decide | omega) | refine b_divS ?_ (by first | decide | omega) | refine b_mulN ?_ (by assumption) | refine b_addT ?_ (Nat.le_of_ble_eq_true rfl) | refine b_addF ?_ (Nat.le_of_ble_eq_true rfl) | refine b_add ?_ | refine b_addB ?_ | refine b_sub ?_ | refine b_and ?_ | refine b_or ?_ | refine b_xor ?_) | (show cmpX _ _ _ _ _; first | refine c_eqN ?_ | refine c_neN ?_ | refine c_ltN ?_ | refine c_leN ?_ | refine c_gtN ?_ | refine c_geN ?_ | refine c_lt ?_ | refine c_le ?_ | refine c_gt ?_ | refine c_ge ?_ | refine c_eqI ?_ | refine c_neI ?_ | refine c_eqb ?_ | refine c_neb ?_ | refine c_isN ?_ | refine c_isnN ?_ | refine c_isn (by simp) ?_ | refine c_isnn (by simp) ?_) | (show truX _ _ _; first | refine tr_bl ?_ | refine tr_bit ?_ | refine tr_nat ?_ | refine tr_int ?_ | refine tr_non ?_ | refine tr_tup ?_ | refine tr_fz ?_ | (apply tr_lst; walk_at "st")) | (show idxX _ _ _ _; first | refine ix_tupN rfl ?_ | refine ix_fzN rfl ?_ | (apply ix_lstN; walk_at "st"; focus rfl) | refine ix_tup rfl ?_ | refine ix_fz rfl ?_ | (apply ix_lst; walk_at "st"; focus rfl)) | (show bltX _ _ _ _; first | refine bl_lenT ?_ | refine bl_lenF ?_ | (apply bl_lenL; walk_at "st") | refine bl_tupF ?_ | refine bl_tupT ?_ | (apply bl_tupL; walk_at "st") | refine bl_lstT ?_ | refine bl_lstF ?_ | (apply bl_lstL; walk_at "st") | (apply bl_lstD; walk_at "st") | refine bl_any ?_ | refine bl_all ?_ | refine bl_int ?_ | refine bl_intB ?_ | refine bl_bool ?_ | refine bl_boolB ?_ | refine bl_abs ?_ | refine bl_min ?_ | refine bl_max ?_) | (first | (show taX _ _ _ _ _; first | refine ta_tup ?_ | (refine ta_nm ?_; first | refine tg_nm ?_)) | (show tgX _ _ _ _; first | refine tg_tp ?_ | refine tg_tpu ?_ | refine tg_nm ?_) | (show tgsX _ _ _ _; first | refine tgs_cons ?_ | refine tgs_nil ?_) | (show itX _ _ _ _ _ _; first | refine it_val ?_ | refine it_rg1 ?_ | refine it_rg2 ?_ | refine it_enum ?_ | refine it_zip ?_ | refine it_rgd ?_ | refine it_rev ?_) | (show itvX _ _ _; first | refine iv_tup ?_ | refine iv_fz ?_ | (apply iv_lst; walk_at "st")) | (show itlX _ _ _; first | refine il_fz ?_ | (apply il_lst; walk_at "st")) | (show zipX _ _ _ _; first | refine iz_tup ?_ | refine iz_fz ?_) | (show ocX _ _ _ _ _; first | refine oc_no ?_ | refine oc_yes ?_) | (show oeX _ _ _ _ _ _; first | refine oe_no ?_ | refine oe_yes ?_) | (show isiX _ _ _ _; first | refine ii (c := true) rfl ?_ | refine ii (c := false) rfl ?_ | (apply ii_lst (c := false); walk_at "st"; focus rfl) | (apply ii_lst (c := true); walk_at "st"; focus rfl)) | (show frX _ _ _; first | refine fr_bl ?_ | refine fr_int ?_ | refine fr_tup ?_ | refine fr_fz ?_ | refine fr_non ?_ | refine fr_str ?_ | (apply fr_ref; walk_at "st")) | (show augX _ _ _ _ _; refine a_int ?_ (by decide)) | (show slcX _ _ _ _ _; first | refine sl_tup ?_ | refine sl_fz ?_ | (apply sl_lst; walk_at "st")) | (show subX _ _ _ _ _; apply su_lstN; walk_at "st"; focus (simp; done))) | (first | (apply rcv_l; walk_at "st"; focus decide) | refine rcv_bits ?_ | refine rcv_fi ?_ | refine rcv_fc ?_ | refine rcv_tc ?_ | (apply rcv_d; walk_at "st") | refine mt_bits ?_) | with_reducible refine if_t ?_ | with_reducible refine if_f ?_ | with_reducible refine if_nt ?_ | with_reducible refine if_nf ?_ | (show rgX _ _; refine rg_n (by first | decide | omega) ?_) | (show rg2X _ _ _; refine rg2_n (by first | decide | omega) ?_) | (show rglX _ _ _; refine rgl_n (by first | decide | omega) ?_) | (show rgtX _ _ _; refine rgt_n (by first | decide | omega) ?_) | (show slrX _ _ _; first | refine slr_tup ?_ | refine slr_fz ?_ | (apply slr_lst; walk_at "st")) | refine rv_tup ?_ | refine rv_fz ?_ | refine eq_int ?_ | refine len_ok ?_ (Nat.le_of_ble_eq_true rfl) | refine bk_mt ?_) | refine ex_ite ?_ | refine st_if' ?_) | (show cmpX _ (.str _) _ _ _; first | refine c_eqS2 true (by decide +kernel) ?_ | refine c_eqS2 false (by decide +kernel) ?_ | refine c_neS2 true (by decide +kernel) ?_ | refine c_neS2 false (by decide +kernel) ?_ | refine c_inT (c := true) (by decide +kernel) (by decide +kernel) (by decide +kernel) ?_ | refine c_inT (c := false) (by decide +kernel) (by decide +kernel) (by decide +kernel) ?_ | refine c_niT (c := true) (by decide +kernel) (by decide +kernel) (by decide +kernel) ?_ | refine c_niT (c := false) (by decide +kernel) (by decide +kernel) (by decide +kernel) ?_))))
  | `(tactic| walk_at "u*") => `(tactic| repeat ((first | (first | (show exX _ _ _ _ _ _; first | refine ex_var ?_ rfl | refine ex_int (b := ((_ : Nat) : Int)) ?_ | refine ex_call ?_ | refine ex_bin ?_ | refine ex_cmp ?_ | refine ex_idx ?_ | refine ex_tup ?_ | refine ex_lst ?_ | refine ex_blt ?_ | refine ex_mth ?_ | refine ex_and ?_ | refine ex_or ?_ | refine ex_not ?_ | refine ex_neg ?_ | refine ex_inv ?_ | refine ex_chn ?_ | refine ex_slc ?_ | refine ex_isi ?_ | refine ex_lc ?_ | refine ex_non ?_ | refine ex_bl ?_ | refine ex_str ?_ | refine ex_dic0 ?_ | refine ex_dic1 ?_ | refine ex_rgl ?_ | refine ex_rgt ?_ | refine ex_revl ?_ | refine ex_slr ?_ | refine ex_cst ?_ | refine ex_cix ?_ | refine ex_int ?_) | (show exsX _ _ _ _ _ _; first | refine exs_cons ?_ | refine exs_nil ?_) | (show sxX _ _ _ _ _; first | refine st_asg' ?_ | refine st_exp' ?_ | refine st_ret' ?_ | (show sxX _ (.aug _ _ _) _ _ _; first | refine st_aug' ?_ rfl) | refine st_sub' ?_ | refine st_retn' ?_ | refine st_augs' ?_ | refine st_brk' ?_ | refine st_cnt' ?_ | refine st_pss' ?_ | refine st_rse' ?_ | refine st_tryA' ?_ | refine st_tryO' ?_) | (show sxsX _ _ _ _ _; first | refine ss_cons' ?_ | refine ss_nil' ?_) | (show binX _ _ _ _ _; first | refine b_addN ?_ | refine b_orN ?_ | refine b_andN ?_ | refine b_dif ?_ | refine b_shrN ?_ | refine b_shlN ?_ ⟨by first | decide | omega, by first | decide | omega⟩ | refine b_subN ?_ (by omega) | refine b_modN ?_ (by first | decide | omega) | refine b_divS ?_ (by first | decide | omega) | refine b_mulN ?_ (by assumption) | refine b_addT ?_ (Nat.le_of_ble_eq_true rfl) | refine b_addF ?_ (Nat.le_of_ble_eq_true rfl) | refine b_add ?_ | refine b_addB ?_ | refine b_sub ?_ | refine b_and ?_ | refine b_or ?_ | refine b_xor ?_) | (show cmpX _ _ _ _ _; first | refine c_eqN ?_ | refine c_neN ?_ | refine c_ltN ?_ | refine c_leN ?_ | refine c_gtN ?_ | refine c_geN ?_ | refine c_lt ?_ | refine c_le ?_ | refine c_gt ?_ | refine c_ge ?_ | refine c_eqI ?_ | refine c_neI ?_ | refine c_eqb ?_ | refine c_neb ?_ | refine c_isN ?_ | refine c_isnN ?_ | refine c_isn (by simp) ?_ | refine c_isnn (by simp) ?_) | (show truX _ _ _; first | refine tr_bl ?_ | refine tr_bit ?_ | refine tr_nat ?_ | refine tr_int ?_ | refine tr_non ?_ | refine tr_tup ?_ | refine tr_fz ?_ | (apply tr_lst; walk_at "st")) | (show idxX _ _ _ _; first | refine ix_tupN rfl ?_ | refine ix_fzN rfl ?_ | (apply ix_lstN; walk_at "st"; focus rfl) | refine ix_tup rfl ?_ | refine ix_fz rfl ?_ | (apply ix_lst; walk_at "st"; focus rfl)) | (show bltX _ _ _ _; first | refine bl_lenT ?_ | refine bl_lenF ?_ | (apply bl_lenL; walk_at "st") | refine bl_tupF ?_ | refine bl_tupT ?_ | (apply bl_tupL; walk_at "st") | refine bl_lstT ?_ | refine bl_lstF ?_ | (apply bl_lstL; walk_at "st") | (apply bl_lstD; walk_at "st") | refine bl_any ?_ | refine bl_all ?_ | refine bl_int ?_ | refine bl_intB ?_ | refine bl_bool ?_ | refine bl_boolB ?_ | refine bl_abs ?_ | refine bl_min ?_ | refine bl_max ?_) | (first | (show taX _ _ _ _ _; first | refine ta_tup ?_ | (refine ta_nm ?_; first | refine tg_nm ?_)) | (show tgX _ _ _ _; first | refine tg_tp ?_ | refine tg_tpu ?_ | refine tg_nm ?_) | (show tgsX _ _ _ _; first | refine tgs_cons ?_ | refine tgs_nil ?_) | (show itX _ _ _ _ _ _; first | refine it_val ?_ | refine it_rg1 ?_ | refine it_rg2 ?_ | refine it_enum ?_ | refine it_zip ?_ | refine it_rgd ?_ | refine it_rev ?_) | (show itvX _ _ _; first | refine iv_tup ?_ | refine iv_fz ?_ | (apply iv_lst; walk_at "st")) | (show itlX _ _ _; first | refine il_fz ?_ | (apply il_lst; walk_at "st")) | (show zipX _ _ _ _; first | refine iz_tup ?_ | refine iz_fz ?_) | (show ocX _ _ _ _ _; first | refine oc_no ?_ | refine oc_yes ?_) | (show oeX _ _ _ _ _ _; first | refine oe_no ?_ | refine oe_yes ?_) | (show isiX _ _ _ _; first | refine ii (c := true) rfl ?_ | refine ii (c := false) rfl ?_ | (apply ii_lst (c := false); walk_at "st"; focus rfl) | (apply ii_lst (c := true); walk_at "st"; focus rfl)) | (show frX _ _ _; first | refine fr_bl ?_ | refine fr_int ?_ | refine fr_tup ?_ | refine fr_fz ?_ | refine fr_non ?_ | refine fr_str ?_ | (apply fr_ref; walk_at "st")) | (show augX _ _ _ _ _; refine a_int ?_ (by decide)) | (show slcX _ _ _ _ _; first | refine sl_tup ?_ | refine sl_fz ?_ | (apply sl_lst; walk_at "st")) | (show subX _ _ _ _ _; apply su_lstN; walk_at "st"; focus (simp; done))) | (first | (apply rcv_l; walk_at "st"; focus decide) | refine rcv_bits ?_ | refine rcv_fi ?_ | refine rcv_fc ?_ | refine rcv_tc ?_ | (apply rcv_d; walk_at "st") | refine mt_bits ?_) | with_reducible refine if_t ?_ | with_reducible refine if_f ?_ | with_reducible refine if_nt ?_ | with_reducible refine if_nf ?_ | (show rgX _ _; refine rg_n (by first | decide | omega) ?_) | (show rg2X _ _ _; refine rg2_n (by first | decide | omega) ?_) | (show rglX _ _ _; refine rgl_n (by first | decide | omega) ?_) | (show rgtX _ _ _; refine rgt_n (by first | decide | omega) ?_) | (show slrX _ _ _; first | refine slr_tup ?_ | refine slr_fz ?_ | (apply slr_lst; walk_at "st")) | refine rv_tup ?_ | refine rv_fz ?_ | refine eq_int ?_ | refine len_ok ?_ (Nat.le_of_ble_eq_true rfl) | refine bk_mt ?_) | refine ex_ite ?_ | refine st_if' ?_)))

variable {P : Prog} {S : Sto} {K : DK} {E : XK}
/-- inner lies in outer -/
def Le (a b : Nat) : Prop := a &&& b = a
instance {a b : Nat} : Decidable (Le a b) := inferInstanceAs (Decidable (a &&& b = a))
theorem le_bits {a b : Nat} : Le a b ↔ ∀ i, a.testBit i = true → b.testBit i = true := by
  unfold Le
  constructor
  · intro h i hi
    rw [← h, Nat.testBit_and, Bool.and_eq_true] at hi
    exact hi.2
  · intro h
    apply Nat.eq_of_testBit_eq
    intro i
    rw [Nat.testBit_and]
    cases e : a.testBit i with
    | false => rfl
    | true => rw [h i e]; rfl
theorem Le.refl (a : Nat) : Le a a := le_bits.2 fun _ h => h
theorem Le.trans {a b c : Nat} (h : Le a b) (k : Le b c) : Le a c := le_bits.2 fun i hi => le_bits.1 k i (le_bits.1 h i hi)
theorem Le.anti {a b : Nat} (h : Le a b) (k : Le b a) : a = b := by
  apply Nat.eq_of_testBit_eq
  intro i
  rw [Bool.eq_iff_iff]
  exact ⟨le_bits.1 h i, le_bits.1 k i⟩
theorem le_orL (a b : Nat) : Le a (a ||| b) := le_bits.2 fun i h => by rw [Nat.testBit_or, h]; rfl
theorem le_orR (a b : Nat) : Le b (a ||| b) := le_bits.2 fun i h => by rw [Nat.testBit_or, h, Bool.or_true]
theorem or_le {a b c : Nat} : Le (a ||| b) c ↔ Le a c ∧ Le b c :=
  ⟨fun h => ⟨(le_orL a b).trans h, (le_orR a b).trans h⟩, fun h => le_bits.2 fun i hi => by
    rw [Nat.testBit_or, Bool.or_eq_true] at hi
    exact hi.elim (le_bits.1 h.1 i) (le_bits.1 h.2 i)⟩
theorem le_and {a b c : Nat} : Le c (a &&& b) ↔ Le c a ∧ Le c b :=
  ⟨fun h => ⟨le_bits.2 fun i hi => by have := le_bits.1 h i hi; rw [Nat.testBit_and, Bool.and_eq_true] at this; exact this.1, le_bits.2 fun i hi => by have := le_bits.1 h i hi; rw [Nat.testBit_and, Bool.and_eq_true] at this; exact this.2⟩,
   fun h => le_bits.2 fun i hi => by rw [Nat.testBit_and, le_bits.1 h.1 i hi, le_bits.1 h.2 i hi]; rfl⟩
theorem and_leL (a b : Nat) : Le (a &&& b) a := (le_and.1 (Le.refl _)).1
theorem and_leR (a b : Nat) : Le (a &&& b) b := (le_and.1 (Le.refl _)).2
theorem le_zero (a : Nat) : Le 0 a := le_bits.2 fun i h => by simp at h
theorem zero_of_le {a : Nat} (h : Le a 0) : a = 0 := h.anti (le_zero a)
theorem Le.le {a b : Nat} (h : Le a b) : a ≤ b := by
  have : a &&& b ≤ b := Nat.and_le_right
  rw [show a &&& b = a from h] at this
  exact this
theorem dec_le {a b : Nat} : decide (a &&& b = a) = decide (Le a b) := rfl
theorem or_lt {a b c : Nat} (h : a < 2 ^ c) (k : b < 2 ^ c) : a ||| b < 2 ^ c := Nat.or_lt_two_pow h k
theorem and_lt {a b c : Nat} (h : a < 2 ^ c) : a &&& b < 2 ^ c := Nat.lt_of_le_of_lt Nat.and_le_left h
theorem bit_lt {m i c : Nat} (h : m < 2 ^ c) (hi : m.testBit i = true) : i < c := by
  rcases Nat.lt_or_ge i c with q | q
  · exact q
  · rw [Nat.testBit_lt_two_pow (Nat.lt_of_lt_of_le h (Nat.pow_le_pow_right (by decide) q))] at hi
    cases hi
theorem lt_of_bits {m c : Nat} (h : ∀ i, m.testBit i = true → i < c) : m < 2 ^ c := by
  apply Nat.lt_pow_two_of_testBit
  intro i hi
  cases e : m.testBit i with
  | false => rfl
  | true => have := h i e; omega
theorem shl_one_bit (a i : Nat) : (1 <<< a).testBit i = decide (a = i) := by
  rw [Nat.shiftLeft_eq, Nat.one_mul, Nat.testBit_two_pow]
theorem dif_bit (a b i : Nat) : (dif a b).testBit i = (a.testBit i && !b.testBit i) := by
  have e : dif a b = a ^^^ (a &&& b) := by
    have h : Le (a &&& b) a := and_leL a b
    have g : ∀ x y : Nat, Le x y → y - x = y ^^^ x := fun x y => by
      induction y using Nat.strongRecOn generalizing x with
      | _ y ih =>
        intro h
        by_cases hy : y = 0
        · subst hy
          have := zero_of_le h
          subst this
          rfl
        · have h2 : Le (x / 2) (y / 2) := le_bits.2 fun i hi => by
            rw [Nat.testBit_div_two] at hi ⊢
            exact le_bits.1 h _ hi
          have q := ih (y / 2) (by omega) (x / 2) h2
          have h0 : x.testBit 0 = true → y.testBit 0 = true := le_bits.1 h 0
          rw [Nat.testBit_zero, Nat.testBit_zero] at h0
          have h3 : x / 2 ≤ y / 2 := h2.le
          have e1 : (y ^^^ x) / 2 = y / 2 ^^^ x / 2 := Nat.xor_div_two
          have e2 : (y ^^^ x) % 2 = (y + x) % 2 := by
            have := Nat.testBit_xor y x 0
            rw [Nat.testBit_zero, Nat.testBit_zero, Nat.testBit_zero] at this
            rcases Nat.mod_two_eq_zero_or_one y with a | a <;> rcases Nat.mod_two_eq_zero_or_one x with b | b <;> rcases Nat.mod_two_eq_zero_or_one (y ^^^ x) with c | c <;> simp [a, b, c] at this <;> omega
          have h4 : x % 2 ≤ y % 2 := by
            rcases Nat.mod_two_eq_zero_or_one y with a | a <;> rcases Nat.mod_two_eq_zero_or_one x with b | b <;> simp [a, b] at h0 ⊢
          omega
    exact g _ _ h
  rw [e, Nat.testBit_xor, Nat.testBit_and]
  cases a.testBit i <;> cases b.testBit i <;> rfl
theorem dif_le (a b : Nat) : Le (dif a b) a := le_bits.2 fun i h => by rw [dif_bit, Bool.and_eq_true] at h; exact h.1
theorem dif_lt {a b c : Nat} (h : a < 2 ^ c) : dif a b < 2 ^ c := Nat.lt_of_le_of_lt (dif_le a b).le h
/-! full sets -/
def full (c : Nat) : Nat := 2 ^ c - 1
theorem full_bit (c i : Nat) : (full c).testBit i = decide (i < c) := Nat.testBit_two_pow_sub_one c i
theorem le_full {m c : Nat} : Le m (full c) ↔ m < 2 ^ c := by
  rw [le_bits]
  constructor
  · exact fun h => lt_of_bits fun i hi => by simpa [full_bit] using h i hi
  · exact fun h i hi => by rw [full_bit]; exact decide_eq_true (bit_lt h hi)
theorem full_lt (c : Nat) : full c < 2 ^ c := le_full.1 (Le.refl _)
theorem shl_full (c : Nat) : (1 <<< c : Nat) - 1 = full c := by rw [Nat.shiftLeft_eq, Nat.one_mul]; rfl
theorem shl_pos (c : Nat) : 1 ≤ (1 <<< c : Nat) := by rw [Nat.shiftLeft_eq, Nat.one_mul]; exact Nat.one_le_two_pow
theorem pow6 {c : Nat} (h : c ≤ 6) : 2 ^ c ≤ 64 := Nat.pow_le_pow_right (n := 2) (by decide) h
theorem lt64 {m c : Nat} (hm : m < 2 ^ c) (h : c ≤ 6) : m < 64 := Nat.lt_of_lt_of_le hm (pow6 h)
/-! the bits of a number -/
def bits (m : Nat) : List Nat := (List.range (blN m)).filter fun i => m.testBit i
theorem bl_bit {m i : Nat} (h : m.testBit i = true) : i < blN m := by
  unfold blN
  by_cases e : m = 0
  · subst e; simp at h
  · rw [if_neg e]
    exact bit_lt Nat.lt_log2_self h
theorem mem_bits {m i : Nat} : i ∈ bits m ↔ m.testBit i = true := by
  unfold bits
  rw [List.mem_filter, List.mem_range]
  exact ⟨fun h => h.2, fun h => ⟨bl_bit h, h⟩⟩
theorem bits_lt {m c : Nat} (h : m < 2 ^ c) : ∀ i ∈ bits m, i < c := fun i hi => bit_lt h (mem_bits.1 hi)
theorem bits_sorted (m : Nat) : (bits m).Pairwise (· < ·) := List.Pairwise.filter _ List.pairwise_lt_range
theorem bits_nodup (m : Nat) : (bits m).Nodup := (bits_sorted m).imp fun h => Nat.ne_of_lt h
theorem lt_uniq : ∀ {l r : List Nat}, l.Pairwise (· < ·) → r.Pairwise (· < ·) → (∀ i, i ∈ l ↔ i ∈ r) → l = r
  | [], [], _, _, _ => rfl
  | [], b :: r, _, _, h => by have := (h b).2 List.mem_cons_self; cases this
  | a :: l, [], _, _, h => by have := (h a).1 List.mem_cons_self; cases this
  | a :: l, b :: r, hl, hr, h => by
    rw [List.pairwise_cons] at hl hr
    have e : a = b := by
      have h1 := (h a).1 List.mem_cons_self
      have h2 := (h b).2 List.mem_cons_self
      rw [List.mem_cons] at h1 h2
      rcases h1 with h1 | h1
      · exact h1
      · rcases h2 with h2 | h2
        · exact h2.symm
        · have := hl.1 b h2
          have := hr.1 a h1
          omega
    subst e
    congr 1
    refine lt_uniq hl.2 hr.2 fun i => ?_
    have q := h i
    rw [List.mem_cons, List.mem_cons] at q
    constructor
    · intro hi
      have ne : i ≠ a := by have := hl.1 i hi; omega
      exact (q.1 (.inr hi)).resolve_left ne
    · intro hi
      have ne : i ≠ a := by have := hr.1 i hi; omega
      exact (q.2 (.inr hi)).resolve_left ne
theorem bits_len (m : Nat) : (bits m).length ≤ blN m := by
  unfold bits
  have := List.length_filter_le (fun i => m.testBit i) (List.range (blN m))
  rwa [List.length_range] at this
theorem blN_le {m c : Nat} (h : m < 2 ^ c) : blN m ≤ c := by
  unfold blN
  split
  · omega
  · rename_i e
    exact (Nat.log2_lt e).2 h
/-- how many bits -/
def pc (m : Nat) : Nat := (bits m).length
theorem pc_le {m c : Nat} (h : m < 2 ^ c) : pc m ≤ c := Nat.le_trans (bits_len m) (blN_le h)
theorem bits_ext {m : Nat} {l : List Nat} (hl : l.Pairwise (· < ·)) (h : ∀ i, i ∈ l ↔ m.testBit i = true) : l = bits m := lt_uniq hl (bits_sorted m) fun i => by rw [h, mem_bits]
theorem bits_zero : bits 0 = [] := rfl
theorem pc_zero : pc 0 = 0 := rfl
theorem bits_even (m : Nat) : bits (2 * m) = (bits m).map (· + 1) := by
  refine (bits_ext ?_ fun i => ?_).symm
  · rw [List.pairwise_map]
    exact (bits_sorted m).imp fun h => by omega
  · rw [List.mem_map]
    constructor
    · rintro ⟨j, hj, rfl⟩
      rw [Nat.testBit_succ, show 2 * m / 2 = m by omega]
      exact mem_bits.1 hj
    · intro h
      cases i with
      | zero => rw [Nat.testBit_zero] at h; simp at h
      | succ j =>
        rw [Nat.testBit_succ, show 2 * m / 2 = m by omega] at h
        exact ⟨j, mem_bits.2 h, rfl⟩
theorem bits_odd (m : Nat) : bits (2 * m + 1) = 0 :: (bits m).map (· + 1) := by
  refine (bits_ext ?_ fun i => ?_).symm
  · rw [List.pairwise_cons, List.pairwise_map]
    refine ⟨fun j hj => ?_, (bits_sorted m).imp fun h => by omega⟩
    obtain ⟨k, _, rfl⟩ := List.mem_map.1 hj
    omega
  · rw [List.mem_cons, List.mem_map]
    constructor
    · rintro (rfl | ⟨j, hj, rfl⟩)
      · rw [Nat.testBit_zero]; simp
      · rw [Nat.testBit_succ, show (2 * m + 1) / 2 = m by omega]
        exact mem_bits.1 hj
    · intro h
      cases i with
      | zero => exact .inl rfl
      | succ j =>
        rw [Nat.testBit_succ, show (2 * m + 1) / 2 = m by omega] at h
        exact .inr ⟨j, mem_bits.2 h, rfl⟩
theorem pc_even (m : Nat) : pc (2 * m) = pc m := by unfold pc; rw [bits_even, List.length_map]
theorem pc_odd (m : Nat) : pc (2 * m + 1) = pc m + 1 := by unfold pc; rw [bits_odd, List.length_cons, List.length_map]
/-- the least bit taken away -/
theorem pc_step : ∀ m : Nat, m ≠ 0 → pc (m &&& (m - 1)) + 1 = pc m ∧ m &&& (m - 1) < m := fun m => by
  induction m using Nat.strongRecOn with
  | _ m ih =>
    intro hm
    have half : (m &&& (m - 1)) / 2 = m / 2 &&& (m - 1) / 2 := Nat.and_div_two
    have par : (m &&& (m - 1)) % 2 = 0 := by
      have := Nat.testBit_and m (m - 1) 0
      rw [Nat.testBit_zero, Nat.testBit_zero, Nat.testBit_zero] at this
      rcases Nat.mod_two_eq_zero_or_one m with a | a
      · rcases Nat.mod_two_eq_zero_or_one (m &&& (m - 1)) with c | c
        · exact c
        · simp [a, c] at this
      · have b : (m - 1) % 2 = 0 := by omega
        rcases Nat.mod_two_eq_zero_or_one (m &&& (m - 1)) with c | c
        · exact c
        · simp [b, c] at this
    rcases Nat.mod_two_eq_zero_or_one m with a | a
    · have hk : m / 2 ≠ 0 := by omega
      obtain ⟨i1, i2⟩ := ih (m / 2) (by omega) hk
      have e : (m - 1) / 2 = m / 2 - 1 := by omega
      rw [e] at half
      have e2 : m &&& (m - 1) = 2 * (m / 2 &&& (m / 2 - 1)) := by omega
      have e3 : m = 2 * (m / 2) := by omega
      refine ⟨?_, by omega⟩
      rw [e2, pc_even]
      conv => rhs; rw [e3]
      rw [pc_even]
      exact i1
    · have e : (m - 1) / 2 = m / 2 := by omega
      rw [e, Nat.and_self] at half
      have e2 : m &&& (m - 1) = 2 * (m / 2) := by omega
      have e3 : m = 2 * (m / 2) + 1 := by omega
      refine ⟨?_, by omega⟩
      rw [e2, pc_even]
      conv => rhs; rw [e3]
      rw [pc_odd]
theorem pc_eq_zero {m : Nat} : pc m = 0 ↔ m = 0 := by
  constructor
  · intro h
    rcases Nat.eq_zero_or_pos m with e | e
    · exact e
    · have := (pc_step m (by omega)).1
      omega
  · rintro rfl; rfl
/-- a set of these numbers -/
def setOf (l : List Nat) : Nat := l.foldl (fun m i => m ||| 1 <<< i) 0
theorem setOf_snoc (l : List Nat) (i : Nat) : setOf (l ++ [i]) = setOf l ||| 1 <<< i := by unfold setOf; rw [List.foldl_append]; rfl
theorem setOf_bit (l : List Nat) (i : Nat) : (setOf l).testBit i = decide (i ∈ l) := by
  have go : ∀ (l : List Nat) (m : Nat), (l.foldl (fun m i => m ||| 1 <<< i) m).testBit i = (m.testBit i || decide (i ∈ l)) := fun l => by
    induction l with
    | nil => intro m; simp
    | cons a l ih =>
      intro m
      rw [List.foldl_cons, ih, Nat.testBit_or, shl_one_bit, Bool.or_assoc]
      congr 1
      rw [Bool.eq_iff_iff, Bool.or_eq_true, decide_eq_true_eq, decide_eq_true_eq, decide_eq_true_eq, List.mem_cons]
      exact ⟨fun h => h.elim (fun e => .inl e.symm) .inr, fun h => h.elim (fun e => .inl e.symm) .inr⟩
  unfold setOf
  rw [go]
  simp
theorem setOf_lt {l : List Nat} {c : Nat} (h : ∀ i ∈ l, i < c) : setOf l < 2 ^ c := lt_of_bits fun i hi => by
  rw [setOf_bit, decide_eq_true_eq] at hi
  exact h i hi
theorem setOf_bits (m : Nat) : setOf (bits m) = m := by
  apply Nat.eq_of_testBit_eq
  intro i
  rw [setOf_bit, Bool.eq_iff_iff, decide_eq_true_eq, mem_bits]
theorem setOf_ne {l : List Nat} (h : l ≠ []) : setOf l ≠ 0 := fun e => by
  cases l with
  | nil => exact h rfl
  | cons a l =>
    have := setOf_bit (a :: l) a
    rw [e] at this
    simp at this
/-! told order -/
def olt (a b : Nat) : Prop := pc a < pc b ∨ (pc a = pc b ∧ a < b)
theorem olt_irr (a : Nat) : ¬ olt a a := fun h => by unfold olt at h; omega
theorem olt_asym {a b : Nat} (h : olt a b) (k : olt b a) : False := by unfold olt at h k; omega
theorem olt_tri (a b : Nat) : olt a b ∨ a = b ∨ olt b a := by unfold olt; omega
theorem o_uniq : ∀ {l r : List Nat}, l.Pairwise olt → r.Pairwise olt → (∀ i, i ∈ l ↔ i ∈ r) → l = r
  | [], [], _, _, _ => rfl
  | [], b :: r, _, _, h => by have := (h b).2 List.mem_cons_self; cases this
  | a :: l, [], _, _, h => by have := (h a).1 List.mem_cons_self; cases this
  | a :: l, b :: r, hl, hr, h => by
    rw [List.pairwise_cons] at hl hr
    have e : a = b := by
      have h1 := (h a).1 List.mem_cons_self
      have h2 := (h b).2 List.mem_cons_self
      rw [List.mem_cons] at h1 h2
      rcases h1 with h1 | h1
      · exact h1
      · rcases h2 with h2 | h2
        · exact h2.symm
        · exact (olt_asym (hl.1 b h2) (hr.1 a h1)).elim
    subst e
    congr 1
    refine o_uniq hl.2 hr.2 fun i => ?_
    have q := h i
    rw [List.mem_cons, List.mem_cons] at q
    constructor
    · intro hi
      have ne : i ≠ a := by rintro rfl; exact olt_irr _ (hl.1 _ hi)
      exact (q.1 (.inr hi)).resolve_left ne
    · intro hi
      have ne : i ≠ a := by rintro rfl; exact olt_irr _ (hr.1 _ hi)
      exact (q.2 (.inr hi)).resolve_left ne
def ole (a b : Nat) : Bool := decide (pc a < pc b ∨ (pc a = pc b ∧ a ≤ b))
/-- the items once each, by their first places -/
def uniq {α : Type} [DecidableEq α] (l : List α) : List α := l.foldl (fun acc m => if m ∈ acc then acc else acc ++ [m]) []
section
variable {α : Type} [DecidableEq α]
theorem uniq_snoc (l : List α) (m : α) : uniq (l ++ [m]) = if m ∈ uniq l then uniq l else uniq l ++ [m] := by
  unfold uniq
  rw [List.foldl_append]
  rfl
theorem uniq_acc : ∀ (l acc : List α), (∀ m, m ∈ l.foldl (fun acc m => if m ∈ acc then acc else acc ++ [m]) acc ↔ m ∈ acc ∨ m ∈ l) ∧ (acc.Nodup → (l.foldl (fun acc m => if m ∈ acc then acc else acc ++ [m]) acc).Nodup) ∧ (l.foldl (fun acc m => if m ∈ acc then acc else acc ++ [m]) acc).length ≤ acc.length + l.length
  | [], acc => ⟨fun m => by simp, fun h => h, by simp⟩
  | a :: l, acc => by
    rw [List.foldl_cons]
    by_cases h : a ∈ acc
    · rw [if_pos h]
      obtain ⟨h1, h2, h3⟩ := uniq_acc l acc
      refine ⟨fun m => ?_, h2, by rw [List.length_cons]; omega⟩
      rw [h1, List.mem_cons]
      constructor
      · rintro (q | q)
        · exact .inl q
        · exact .inr (.inr q)
      · rintro (q | rfl | q)
        · exact .inl q
        · exact .inl h
        · exact .inr q
    · rw [if_neg h]
      obtain ⟨h1, h2, h3⟩ := uniq_acc l (acc ++ [a])
      refine ⟨fun m => ?_, fun hn => h2 (List.nodup_append.2 ⟨hn, by simp, fun x hx y hy => by rw [List.mem_singleton] at hy; rintro rfl; exact h (hy ▸ hx)⟩), by rw [List.length_append, List.length_singleton] at h3; rw [List.length_cons]; omega⟩
      rw [h1, List.mem_append, List.mem_singleton, List.mem_cons, or_assoc]
theorem uniq_mem (l : List α) (m : α) : m ∈ uniq l ↔ m ∈ l := by
  rw [uniq, (uniq_acc l []).1 m]
  simp
theorem uniq_nodup (l : List α) : (uniq l).Nodup := (uniq_acc l []).2.1 List.nodup_nil
theorem uniq_len (l : List α) : (uniq l).length ≤ l.length := by
  have := (uniq_acc l []).2.2
  unfold uniq
  simpa using this
end
/-- in told order, once each -/
def ordered (l : List Nat) : List Nat := (uniq l).mergeSort ole
theorem ole_trans (a b c : Nat) (h : ole a b = true) (k : ole b c = true) : ole a c = true := by
  unfold ole at *
  rw [decide_eq_true_eq] at *
  omega
theorem ole_total (a b : Nat) : (ole a b || ole b a) = true := by
  unfold ole
  rw [Bool.or_eq_true, decide_eq_true_eq, decide_eq_true_eq]
  omega
theorem ordered_mem {l : List Nat} {m : Nat} : m ∈ ordered l ↔ m ∈ l := by
  unfold ordered
  rw [(List.mergeSort_perm _ _).mem_iff, uniq_mem]
theorem ordered_nodup (l : List Nat) : (ordered l).Nodup := (List.mergeSort_perm _ _).nodup_iff.2 (uniq_nodup l)
theorem ordered_sorted (l : List Nat) : (ordered l).Pairwise olt := by
  have h1 : (ordered l).Pairwise fun a b => ole a b = true := List.pairwise_mergeSort ole_trans ole_total (uniq l)
  have h2 := ordered_nodup l
  have h3 := List.Pairwise.and h1 h2
  refine h3.imp fun {a b} h => ?_
  have h4 := h.1
  unfold ole at h4
  rw [decide_eq_true_eq] at h4
  have h5 : a ≠ b := h.2
  unfold olt
  omega
theorem ordered_of {l r : List Nat} (h : r.Pairwise olt) (k : ∀ m, m ∈ r ↔ m ∈ l) : r = ordered l := o_uniq h (ordered_sorted l) fun m => by rw [k, ordered_mem]
theorem ordered_filter (l : List Nat) (p : Nat → Bool) : (ordered l).filter p = ordered (l.filter p) := ordered_of ((ordered_sorted l).filter p) fun m => by rw [List.mem_filter, List.mem_filter, ordered_mem]
theorem ordered_congr {l r : List Nat} (h : ∀ m, m ∈ l ↔ m ∈ r) : ordered l = ordered r := ordered_of (ordered_sorted l) fun m => by rw [ordered_mem, h]
theorem ordered_len (l : List Nat) : (ordered l).length ≤ l.length := by
  unfold ordered
  rw [(List.mergeSort_perm _ _).length_eq]
  exact uniq_len l
/-- all sets of c columns, in told order -/
def sets (c : Nat) : List Nat := ordered (List.range (2 ^ c))
theorem sets_mem {c m : Nat} : m ∈ sets c ↔ m < 2 ^ c := by unfold sets; rw [ordered_mem, List.mem_range]
theorem sets_len (c : Nat) : (sets c).length ≤ 2 ^ c := by
  have := ordered_len (List.range (2 ^ c))
  rwa [List.length_range] at this
/-! as values -/
abbrev nD (m : Nat) : D := .int m
def mD (l : List Nat) : List D := l.map nD
theorem mD_len (l : List Nat) : (mD l).length = l.length := List.length_map _
theorem ints_mD (l : List Nat) : ints? (mD l) = some (l.map fun (m : Nat) => (m : Int)) := ints_map (fun m : Nat => (m : Int)) l
theorem fin_nD (n m : Nat) : fin n (nD m) = true := by cases n <;> rfl
theorem fin_mD (n : Nat) (l : List Nat) : (mD l).all (fin n) = true := by
  rw [List.all_eq_true]
  intro d hd
  obtain ⟨m, _, rfl⟩ := List.mem_map.1 hd
  exact fin_nD n m
theorem eqF_nD (n a b : Nat) : eqF n (nD a) (nD b) = decide (a = b) := by
  have : eqF n (nD a) (nD b) = ((a : Int) == b) := by cases n <;> rfl
  rw [this, Bool.eq_iff_iff]
  simp
  omega
theorem any_mD (l : List Nat) (m : Nat) : ((mD l).any fun y => eqF 12 y (nD m)) = decide (m ∈ l) := by
  unfold mD
  rw [List.any_map, Bool.eq_iff_iff, List.any_eq_true, decide_eq_true_eq]
  constructor
  · rintro ⟨x, hx, h⟩
    rw [Function.comp, eqF_nD, decide_eq_true_eq] at h
    exact h ▸ hx
  · exact fun h => ⟨m, h, by rw [Function.comp, eqF_nD]; simp⟩

def kvT (l : List Nat) : List (D × D) := l.map fun (m : Nat) => (nD m, .bl true)
theorem hask_kvT (l : List Nat) (m : Nat) : hask (kvT l) (nD m) = decide (m ∈ l) := by
  unfold hask kvT
  rw [List.any_map, Bool.eq_iff_iff, List.any_eq_true, decide_eq_true_eq]
  constructor
  · rintro ⟨x, hx, h⟩
    rw [Function.comp, eqF_nD, decide_eq_true_eq] at h
    exact h ▸ hx
  · exact fun h => ⟨m, h, by rw [Function.comp, eqF_nD]; simp⟩
theorem putk_kvT (l : List Nat) (m : Nat) : putk (kvT l) (nD m) (.bl true) = kvT (if m ∈ l then l else l ++ [m]) := by
  unfold putk
  rw [hask_kvT]
  by_cases h : m ∈ l
  · rw [if_pos (decide_eq_true h), if_pos h]
    unfold kvT
    rw [List.map_map]
    refine List.map_congr_left fun a _ => ?_
    simp only [Function.comp]
    split <;> rfl
  · rw [if_neg (by simpa using h), if_neg h]
    unfold kvT
    rw [List.map_append]
    rfl
theorem kvT_keys (l : List Nat) : (kvT l).map (·.1) = mD l := by simp [kvT, mD]
theorem kvT_len (l : List Nat) : (kvT l).length = l.length := List.length_map _
/-- ints sorted by size and number are the sets in order -/
theorem srt_ordered (l : List Nat) : (((uniq l).map fun (m : Nat) => (m : Int)).mergeSort fun a b => decide ((((pc a.toNat : Nat) : Int)) < pc b.toNat ∨ ((((pc a.toNat : Nat) : Int)) = pc b.toNat ∧ a ≤ b))).map D.int = mD (ordered l) := by
  have e : (((uniq l).map fun (m : Nat) => (m : Int)).mergeSort fun a b => decide ((((pc a.toNat : Nat) : Int)) < pc b.toNat ∨ ((((pc a.toNat : Nat) : Int)) = pc b.toNat ∧ a ≤ b))) = ((uniq l).mergeSort ole).map fun (m : Nat) => (m : Int) := by
    have q := List.map_mergeSort (f := fun (m : Nat) => (m : Int)) (r := ole) (l := uniq l) (s := fun a b => decide ((((pc a.toNat : Nat) : Int)) < pc b.toNat ∨ ((((pc a.toNat : Nat) : Int)) = pc b.toNat ∧ a ≤ b))) fun a _ b _ => by
      unfold ole
      rw [Int.toNat_natCast, Int.toNat_natCast]
      exact decide_eq_decide.2 (by omega)
    exact q.symm
  rw [e, List.map_map]
  rfl
/-- bits below k -/
def bitsTo (m k : Nat) : List Nat := (List.range k).filter fun i => m.testBit i
theorem bitsTo_succ (m k : Nat) : bitsTo m (k + 1) = if m.testBit k = true then bitsTo m k ++ [k] else bitsTo m k := by
  unfold bitsTo
  rw [List.range_succ, List.filter_append]
  by_cases h : m.testBit k = true
  · rw [if_pos h]; simp [h]
  · rw [if_neg h]; simp [h]
theorem bitsTo_all {m k : Nat} (h : m >>> k = 0) : bitsTo m k = bits m := by
  refine bits_ext (List.Pairwise.filter _ List.pairwise_lt_range) fun i => ?_
  unfold bitsTo
  rw [List.mem_filter, List.mem_range]
  refine ⟨fun q => q.2, fun q => ⟨?_, q⟩⟩
  rcases Nat.lt_or_ge i k with l | l
  · exact l
  · have : (m >>> k).testBit (i - k) = true := by rw [Nat.testBit_shiftRight, show k + (i - k) = i by omega]; exact q
    rw [h] at this
    simp at this
theorem shr_lt {m k : Nat} (h : m >>> k ≠ 0) : k < blN m := by
  unfold blN
  have hm : m ≠ 0 := by rintro rfl; simp at h
  rw [if_neg hm]
  rcases Nat.lt_or_ge k (m.log2 + 1) with l | l
  · exact l
  · exfalso
    apply h
    rw [Nat.shiftRight_eq_div_pow]
    apply Nat.div_eq_of_lt
    exact Nat.lt_of_lt_of_le Nat.lt_log2_self (Nat.pow_le_pow_right (by decide) l)
/-- the meet of sets within a set -/
def meetTo (top : Nat) (l : List Nat) : Nat := l.foldl (fun t m => t &&& m) top
theorem meetTo_snoc (top : Nat) (l : List Nat) (m : Nat) : meetTo top (l ++ [m]) = meetTo top l &&& m := by unfold meetTo; rw [List.foldl_append]; rfl
theorem le_meetTo {top a : Nat} {l : List Nat} : Le a (meetTo top l) ↔ Le a top ∧ ∀ m ∈ l, Le a m := by
  unfold meetTo
  induction l generalizing top with
  | nil => simp
  | cons b l ih =>
    rw [List.foldl_cons, ih, le_and]
    simp only [List.mem_cons, forall_eq_or_imp]
    exact and_assoc
theorem meetTo_le (top : Nat) (l : List Nat) : Le (meetTo top l) top := (le_meetTo.1 (Le.refl _)).1
theorem meetTo_lem {top : Nat} {l : List Nat} {m : Nat} (h : m ∈ l) : Le (meetTo top l) m := (le_meetTo.1 (Le.refl _)).2 m h
theorem meetTo_bit (top : Nat) (l : List Nat) (i : Nat) : (meetTo top l).testBit i = (top.testBit i && l.all fun m => m.testBit i) := by
  unfold meetTo
  induction l generalizing top with
  | nil => simp
  | cons b l ih => rw [List.foldl_cons, ih, Nat.testBit_and, List.all_cons, Bool.and_assoc]
theorem meetTo_lt {top c : Nat} (l : List Nat) (h : top < 2 ^ c) : meetTo top l < 2 ^ c := Nat.lt_of_le_of_lt (meetTo_le top l).le h
/-- the least ones among sets -/
def leastOnes (l : List Nat) : List Nat := (ordered l).filter fun m => !(l.any fun o => decide (Le o m ∧ o ≠ m))
theorem pc_lt_of {a b : Nat} (h : Le a b) (n : a ≠ b) : pc a < pc b := by
  have s : ∀ i ∈ bits a, i ∈ bits b := fun i hi => mem_bits.2 (le_bits.1 h i (mem_bits.1 hi))
  have sub : (bits a).Sublist (bits b) := by
    have e : bits a = (bits b).filter fun i => a.testBit i := lt_uniq (bits_sorted a) ((bits_sorted b).filter _) fun i => by
      rw [List.mem_filter, mem_bits, mem_bits]
      exact ⟨fun q => ⟨le_bits.1 h i q, q⟩, fun q => q.2⟩
    rw [e]
    exact List.filter_sublist
  have l1 := sub.length_le
  unfold pc
  rcases Nat.lt_or_ge (bits a).length (bits b).length with q | q
  · exact q
  · have e := sub.eq_of_length_le q
    exfalso
    apply n
    rw [← setOf_bits a, ← setOf_bits b, e]
theorem leastOnes_mem {l : List Nat} {m : Nat} : m ∈ leastOnes l ↔ m ∈ l ∧ ∀ o ∈ l, Le o m → o = m := by
  unfold leastOnes
  rw [List.mem_filter, ordered_mem]
  refine and_congr_right fun _ => ?_
  rw [Bool.not_eq_true', List.any_eq_false]
  constructor
  · intro q o ho hl
    have := q o ho
    rw [decide_eq_true_eq] at this
    by_cases e : o = m
    · exact e
    · exact (this ⟨hl, e⟩).elim
  · intro q o ho
    rw [decide_eq_true_eq]
    rintro ⟨hl, e⟩
    exact e (q o ho hl)
theorem leastOnes_sorted (l : List Nat) : (leastOnes l).Pairwise olt := (ordered_sorted l).filter _
theorem leastOnes_below {l : List Nat} : ∀ {m : Nat}, m ∈ l → ∃ o ∈ leastOnes l, Le o m := fun {m} => by
  induction h : pc m using Nat.strongRecOn generalizing m with
  | _ n ih =>
    intro hm
    by_cases q : ∃ o ∈ l, Le o m ∧ o ≠ m
    · obtain ⟨o, ho, hl, hn⟩ := q
      obtain ⟨r, hr, hl2⟩ := ih (pc o) (by rw [← h]; exact pc_lt_of hl hn) rfl ho
      exact ⟨r, hr, hl2.trans hl⟩
    · refine ⟨m, leastOnes_mem.2 ⟨hm, fun o ho hl => ?_⟩, Le.refl m⟩
      by_cases e : o = m
      · exact e
      · exact (q ⟨o, ho, hl, e⟩).elim
theorem leastOnes_len (l : List Nat) : (leastOnes l).length ≤ l.length := Nat.le_trans (List.length_filter_le _ _) (ordered_len l)
/-- the list of least ones grown along the told order -/
theorem least_step {l a : List Nat} {m : Nat} {b : List Nat} (e : ordered l = a ++ m :: b) : ((a.filter fun x => decide (x ∈ leastOnes l)).any fun o => decide (Le o m)) = !decide (m ∈ leastOnes l) := by
  have hm : m ∈ l := ordered_mem.1 (by rw [e]; simp)
  have hs := ordered_sorted l
  rw [e, List.pairwise_append] at hs
  rw [Bool.eq_iff_iff, List.any_eq_true, Bool.not_eq_true', decide_eq_false_iff_not]
  constructor
  · rintro ⟨o, ho, hl⟩ h
    rw [List.mem_filter] at ho
    have hol : o ∈ l := ordered_mem.1 (by rw [e]; exact List.mem_append_left _ ho.1)
    have eq := (leastOnes_mem.1 h).2 o hol (by simpa using hl)
    subst eq
    exact olt_irr _ (hs.2.2 _ ho.1 _ List.mem_cons_self)
  · intro h
    obtain ⟨o, ho, hl⟩ := leastOnes_below hm
    refine ⟨o, ?_, by simpa using hl⟩
    rw [List.mem_filter]
    refine ⟨?_, by simpa using ho⟩
    have hne : o ≠ m := by rintro rfl; exact h ho
    have hol : o ∈ ordered l := ordered_mem.2 (leastOnes_mem.1 ho).1
    rw [e, List.mem_append, List.mem_cons] at hol
    rcases hol with q | q | q
    · exact q
    · exact (hne q).elim
    · have lt1 := pc_lt_of hl hne
      have := (List.pairwise_cons.1 hs.2.1).1 o q
      unfold olt at this
      omega
/-- the store is the drawing book at d; at most b draws went by -/
def Dr (d b : Nat) (S : Sto) : Prop := ∃ (cells : List Int) (pos val seed : Nat), S = put mt d (.lst [.fz (cells.map .int), .int pos, .int val, .int seed]) ∧ (∀ z ∈ cells, z.natAbs.log2 < 1048576) ∧ cells.length ≤ 63 ∧ pos ≤ b ∧ val < 2 ^ 6000 ∧ seed < 2 ^ 31
theorem log_lt {x k : Nat} (h : x < 2 ^ k) : x.log2 ≤ k := by
  by_cases e : x = 0
  · subst e; simp
  · exact Nat.le_of_lt ((Nat.log2_lt e).2 h)
theorem mul_ok {x y : Int} {a b : Nat} (h1 : x.natAbs < 2 ^ a) (h2 : y.natAbs < 2 ^ b) (h : a + b < 130000000) : mulOk x y := by
  have := log_lt h1
  have := log_lt h2
  show x.natAbs.log2 + y.natAbs.log2 < 130000000
  omega
theorem mul_okN {x y a b : Nat} (h1 : x < 2 ^ a) (h2 : y < 2 ^ b) (h : a + b < 130000000) : mulOk x y := mul_ok (x := x) (y := y) h1 h2 h
theorem Dr.mono {S : Sto} {d a b : Nat} (h : Dr d a S) (l : a ≤ b) : Dr d b S := by
  obtain ⟨cells, pos, val, seed, h1, h2, h3, h4, h5⟩ := h
  exact ⟨cells, pos, val, seed, h1, h2, h3, by omega, h5⟩
theorem Dr.non {S : Sto} {d a p : Nat} (h : Dr d a S) (hp : p ≠ d) : S p = none := by
  obtain ⟨cells, pos, val, seed, rfl, _⟩ := h
  rw [put_of hp]
  rfl
theorem Dr.ne {S : Sto} {d a p : Nat} (h : Dr d a S) (hp : S p = none) : p ≠ d := by
  obtain ⟨cells, pos, val, seed, rfl, _⟩ := h
  rintro rfl
  rw [put_eq] at hp
  cases hp
theorem shl_pos' {a : Nat} : 0 < 1 <<< a := by rw [Nat.shiftLeft_eq, Nat.one_mul]; exact Nat.two_pow_pos _
theorem w_draw (h : Has P) {n d b many : Nat} (hD : Dr d b S) (hm : 0 < many) (hl : many < 2 ^ 64) (hb : b < 2 ^ 60)
    (hk : ∀ (r : Nat) S', r < many → Dr d (b + 1) S' → K (.int r) S') : callX P (n+1) "_law_draw" [.ref d, .int many] S K E := by
  obtain ⟨cells, pos, val, seed, rfl, h2, h3, h4, h5, h6⟩ := hD
  refine call_of (σ := [some (.ref d), some (.int many), none, none, none]) h.h_law_draw rfl rfl ?_
  walk_at "e*"
  refine if_dec (fun hc => ?_) (fun hc => ?_)
  · walk_at "e*"
    rw [put_put]
    refine bk_self (hk _ _ (Nat.mod_lt _ hm) ⟨cells, pos, val / many, seed, rfl, h2, h3, by omega, Nat.lt_of_le_of_lt (Nat.div_le_self _ _) h5, h6⟩)
  walk_at "e"
  walk_at "e"
  walk_at "e"
  walk_at "e"
  walk_at "e"
  walk_at "e"
  refine st_cut (fun σ' S' => S' = put mt d (.lst [.fz (cells.map .int), .int pos, .int val, .int seed]) ∧ ∃ (size : Nat) (c : Option D), σ' = [some (.ref d), some (.int many), none, some (.int size), c]) (fun nx' hn => ?_) ?_
  · walk_at "e*"
    refine if_dec (fun hc => ?_) (fun hc => ?_)
    · have hp : pos < cells.length := by rw [List.length_map] at hc; exact hc
      walk_at "e*"
      refine ix_fzN (d := .int cells[pos]) (by simp [hp]) ?_
      walk_at "e*"
      refine b_mulN (a := 2) ?_ ?_
      · walk_at "e*"
        refine hn _ _ ⟨rfl, 2 * cells[pos].natAbs + (b2 (decide (cells[pos] < 0))).toNat, some (.int cells[pos]), ?_⟩
        have e : (((b2 (decide (cells[pos] < 0))).toNat : Nat) : Int) = b2 (decide (cells[pos] < 0)) := by
          unfold b2
          split <;> rfl
        show [_, _, _, _, _] = [_, _, _, _, _]
        rw [Int.natCast_add, e]
        rfl
      · have := h2 _ (List.getElem_mem hp)
        show ((2 : Nat) : Int).natAbs.log2 + ((cells[pos].natAbs : Int)).natAbs.log2 < 130000000
        rw [Int.natAbs_natCast, Int.natAbs_natCast]
        have : Nat.log2 2 = 1 := by decide
        omega
    · walk_at "e*"
      exact hn _ _ ⟨rfl, 0, none, rfl⟩
  · rintro σ' S' ⟨rfl, size, c, rfl⟩
    walk_at "e*"
    refine b_pow ?_ (by decide)
    walk_at "e*"
    refine b_mul ?_ (mul_ok (a := 2) (b := 64) (by decide) (by decide) (by decide))
    walk_at "e*"
    refine if_both (fun hs => ?_) (fun hs => ?_)
    · walk_at "e*"
      rw [put_put, put_put]
      refine bk_self (hk _ _ (Nat.mod_lt _ hm) ⟨cells, pos + 1, _, seed, rfl, h2, h3, by omega, Nat.lt_of_le_of_lt (Nat.div_le_self _ _) ?_, h6⟩)
      have := Nat.mod_lt (size / 2) (Nat.two_pow_pos 6000)
      rw [Nat.shiftLeft_eq, Nat.one_mul]
      exact this
    · walk_at "e*"
      refine b_mulN ?_ (mul_okN (a := 31) (b := 17) h6 (by decide) (by decide))
      walk_at "e*"
      refine b_mulN ?_ (mul_okN (a := 31) (b := 16) (by have := Nat.mod_lt size (show 0 < 2147483629 by decide); omega) (by decide) (by decide))
      walk_at "e*"
      refine b_mulN ?_ (mul_okN (a := 61) (b := 16) (by omega) (by decide) (by decide))
      walk_at "e*"
      rw [put_put, put_put]
      refine bk_self (hk _ _ (Nat.mod_lt _ hm) ⟨cells, pos + 1, val, _, rfl, h2, h3, by omega, h5, ?_⟩)
      have := Nat.mod_lt (seed * 69069 + size % 2147483629 * 40692 + (pos + 1) * 40014 + 29) (show 0 < 2147483647 by decide)
      omega
theorem w_begin (h : Has P) {n : Nat} {cells : List Int} (hc : ∀ z ∈ cells, z.natAbs.log2 < 1048576) (hl : cells.length ≤ 63) (hk : ∀ d S', Dr d 0 S' → K (.ref d) S') : callX P (n+1) "_law_begin" [.fz (cells.map .int)] mt K E := by
  refine call_of (σ := [some (.fz (cells.map .int)), none]) h.h_law_begin rfl rfl ?_
  walk_at "e*"
  refine lc_m (fun z : Int => .int z) (by show _ ≤ 16777216; omega) (fun z hz Kt k => ?_) ?_
  · walk_at "e*"
    exact k
  refine nl_fz ?_
  walk_at "e*"
  refine nl_ref fun p hp => ?_
  exact fr_no (bk_self (hk _ _ ⟨cells, 0, 0, 17, rfl, hc, hl, Nat.le_refl _, Nat.two_pow_pos _, by decide⟩))

theorem six_nat (n d v : Nat) : six n d (some (v : Int)) = min v n := by
  show (if (v : Int) < 0 then ((v : Int) + Int.ofNat n).toNat else min (v : Int).toNat n) = _
  rw [if_neg (by omega), Int.toNat_natCast]
theorem six_neg (n d v : Nat) (h : 0 < v) : six n d (some (-(v : Int))) = n - v := by
  show (if -(v : Int) < 0 then (-(v : Int) + (n : Int)).toNat else min (-(v : Int)).toNat n) = _
  rw [if_pos (by omega)]
  omega
theorem cut_take {α : Type} (l : List α) (n : Nat) : cut l none (some (n : Int)) = l.take n := by
  unfold cut
  rw [six_nat]
  show (l.drop 0).take (min n l.length - 0) = _
  rw [List.drop_zero, Nat.sub_zero, ← List.take_eq_take_min]
theorem cut_drop {α : Type} (l : List α) (n : Nat) : cut l (some (n : Int)) none = l.drop n := by
  unfold cut
  rw [six_nat]
  show (l.drop (min n l.length)).take (l.length - min n l.length) = _
  rw [List.take_of_length_le (by rw [List.length_drop]; exact Nat.le_refl _)]
  rcases Nat.le_total n l.length with h | h
  · rw [Nat.min_eq_left h]
  · rw [Nat.min_eq_right h, List.drop_length, List.drop_eq_nil_of_le h]
theorem cut_last {α : Type} (l : List α) : cut l none (some (-((1 : Nat) : Int))) = l.dropLast := by
  unfold cut
  rw [six_neg _ _ _ (by decide), List.dropLast_eq_take]
  rfl
theorem non2 {S : Sto} {p q : Nat} {o : AO} (h : q ≠ p) (k : S q = none) : put S p o q = none := by rw [put_of h]; exact k
/-! rules and books -/
def rD (r : Nat × Nat) : D := .tup [.int r.1, .int r.2]
def rsD (rs : List (Nat × Nat)) : D := .tup (rs.map rD)
def bookD (c : Nat) (rs : List (Nat × Nat)) : D := .tup [.int c, rsD rs]
/-- rules over c columns -/
def Rs (c : Nat) (rs : List (Nat × Nat)) : Prop := ∀ r ∈ rs, r.1 < 2 ^ c ∧ r.2 < 2 ^ c ∧ r.2 ≠ 0
theorem Rs.snoc {c : Nat} {rs : List (Nat × Nat)} {r : Nat × Nat} (h : Rs c rs) (h1 : r.1 < 2 ^ c) (h2 : r.2 < 2 ^ c) (h3 : r.2 ≠ 0) : Rs c (rs ++ [r]) := fun q hq => by
  rw [List.mem_append, List.mem_singleton] at hq
  rcases hq with hq | rfl
  · exact h q hq
  · exact ⟨h1, h2, h3⟩
theorem Rs.nil {c : Nat} : Rs c [] := fun _ h => nomatch h
theorem Rs.cons {c : Nat} {rs : List (Nat × Nat)} {r : Nat × Nat} (h1 : r.1 < 2 ^ c) (h2 : r.2 < 2 ^ c) (h3 : r.2 ≠ 0) (h : Rs c rs) : Rs c (r :: rs) := fun q hq => by
  rcases List.mem_cons.1 hq with rfl | hq
  · exact ⟨h1, h2, h3⟩
  · exact h q hq
theorem Rs.sub {c : Nat} {rs rs' : List (Nat × Nat)} (h : Rs c rs) (k : ∀ r ∈ rs', r ∈ rs) : Rs c rs' := fun r hr => h r (k r hr)
theorem or_ne {a b : Nat} (h : b ≠ 0) : a ||| b ≠ 0 := fun e => h (zero_of_le (e ▸ le_orR a b))
theorem or_neL {a b : Nat} (h : a ≠ 0) : a ||| b ≠ 0 := fun e => h (zero_of_le (e ▸ le_orL a b))
theorem shl_lt {i c : Nat} (h : i < c) : 1 <<< i < 2 ^ c := by rw [Nat.shiftLeft_eq, Nat.one_mul]; exact Nat.pow_lt_pow_right (by decide) h
theorem shl_ne (i : Nat) : 1 <<< i ≠ 0 := by have := shl_pos i; omega
/-! plain things -/
mutual
def szD : D → Nat
  | .tup l => 1 + szL l
  | _ => 1
def szL : List D → Nat
  | [] => 0
  | d :: l => szD d + szL l
end
def plD : Nat → D → Bool
  | _, .non => true
  | _, .int _ => true
  | _, .str s => strok s
  | n + 1, .tup l => l.all (plD n)
  | _, _ => false
theorem szL_app : ∀ a b : List D, szL (a ++ b) = szL a + szL b
  | [], b => by simp [szL]
  | d :: a, b => by simp [szL, szL_app a b]; omega
theorem pl_fin : ∀ {n : Nat} {d : D}, plD n d = true → fin n d = true
  | n, .non, _ => by cases n <;> rfl
  | n, .int _, _ => by cases n <;> rfl
  | n, .str s, h => by cases n <;> exact h
  | n + 1, .tup l, h => by
    have h : l.all (plD n) = true := h
    show l.all (fin n) = true
    rw [List.all_eq_true] at h ⊢
    exact fun d hd => pl_fin (h d hd)
  | 0, .tup l, h => by cases h
  | n, .bl b, h => by cases n <;> cases h
  | n, .fz l, h => by cases n <;> cases h
  | n, .ref a, h => by cases n <;> cases h
  | n, .tpu a, h => by cases n <;> cases h
theorem pl_up : ∀ {n : Nat} {d : D}, plD n d = true → plD (n + 1) d = true
  | n, .non, _ => rfl
  | n, .int _, _ => rfl
  | n, .str s, h => by cases n <;> exact h
  | n + 1, .tup l, h => by
    have h : l.all (plD n) = true := h
    show l.all (plD (n + 1)) = true
    rw [List.all_eq_true] at h ⊢
    exact fun d hd => pl_up (h d hd)
  | 0, .tup l, h => by cases h
  | n, .bl b, h => by cases n <;> cases h
  | n, .fz l, h => by cases n <;> cases h
  | n, .ref a, h => by cases n <;> cases h
  | n, .tpu a, h => by cases n <;> cases h
mutual
theorem eqF_self : ∀ {n : Nat} {d : D}, fin n d = true → eqF n d d = true
  | n, .non, _ => by cases n <;> rfl
  | n, .bl b, _ => by cases n <;> simp [eqF]
  | n, .int b, _ => by cases n <;> simp [eqF]
  | n, .str s, h => by cases n <;> simp [eqF]
  | n + 1, .tup l, h => by
    simp only [eqF]
    exact allF_self (by simpa only [fin] using h)
  | 0, .tup l, h => by simp [fin] at h
  | n + 1, .fz l, h => by
    simp only [eqF]
    exact allF_self (by simpa only [fin] using h)
  | 0, .fz l, h => by simp [fin] at h
  | n, .ref a, h => by cases n <;> simp [fin] at h
  | n, .tpu a, h => by cases n <;> simp [fin] at h
theorem allF_self : ∀ {n : Nat} {l : List D}, l.all (fin n) = true → allF (eqF n) l l = true
  | n, [], _ => rfl
  | n, d :: l, h => by
    rw [List.all_cons, Bool.and_eq_true] at h
    simp only [allF]
    rw [eqF_self h.1, allF_self h.2]
    rfl
end
theorem eqT_self {d : D} (h : finT d = true) : eqT d d = true := by
  cases d with
  | fz l => exact allF_self h
  | _ => exact eqF_self h
theorem pl_nD (n m : Nat) : plD n (nD m) = true := by cases n <;> rfl
theorem pl_tup {n : Nat} {l : List D} (h : ∀ d ∈ l, plD n d = true) : plD (n + 1) (.tup l) = true := List.all_eq_true.2 h
theorem sz_tup {l : List D} : szD (.tup l) = 1 + szL l := rfl
theorem szL_le {l : List D} {k : Nat} (h : ∀ d ∈ l, szD d ≤ k) : szL l ≤ k * l.length := by
  induction l with
  | nil => exact Nat.zero_le _
  | cons d l ih =>
    have h1 := h d List.mem_cons_self
    have h2 := ih fun e he => h e (List.mem_cons_of_mem _ he)
    rw [List.length_cons, Nat.mul_succ]
    show szD d + szL l ≤ _
    omega
theorem pl_tmD (n : Nat) (l : List Nat) : plD (n + 1) (.tup (mD l)) = true := pl_tup fun d hd => by
  obtain ⟨m, _, rfl⟩ := List.mem_map.1 hd
  exact pl_nD n m
theorem sz_tmD (l : List Nat) : szD (.tup (mD l)) ≤ 1 + l.length := by
  rw [sz_tup]
  have := szL_le (l := mD l) (k := 1) fun d hd => by
    obtain ⟨m, _, rfl⟩ := List.mem_map.1 hd
    exact Nat.le_refl _
  rw [mD_len] at this
  omega
theorem sz_nD (m : Nat) : szD (nD m) = 1 := rfl
def isI : D → Bool
  | .int _ => true
  | _ => false
/-- a thing that stands by itself -/
def flD : D → Bool
  | .ref _ => false
  | .tpu _ => false
  | _ => true
theorem w_law_is_int (h : Has P) {n : Nat} {d : D} (hd : flD d = true) (hk : K (.bl (isI d)) S) : callX P (n+1) "_law_is_int" [d] S K E := by
  refine call_mt (σ := [some d]) h.h_law_is_int rfl rfl ?_
  cases d with
  | ref a => cases hd
  | tpu a => cases hd
  | _ => walk_at "e*"; exact hk
theorem w_law_says (h : Has P) {n : Nat} {a b : Bool} (hk : K (.bl (a == b)) S) : callX P (n+1) "_law_says" [.bl a, .bl b] S K E := by
  refine call_mt (σ := [some (.bl a), some (.bl b)]) h.h_law_says rfl rfl ?_
  walk_at "e*"
  exact hk
theorem w_law_plain (h : Has P) {n : Nat} {d : D} (hp : plD 12 d = true) (hz : szD d ≤ 19999) (hk : K (.bl true) S) : callX P (n+2) "_law_plain" [d] S K E := by
  refine call_mt (σ := [some d, none, none, none]) h.h_law_plain rfl rfl ?_
  walk_at "e*"
  refine nl_ref fun p hp' => ?_
  walk_at "e*"
  have nf : ∀ {l : List D}, (∀ e ∈ l, plD 12 e = true) → l.all (fin 12) = true := fun hl => List.all_eq_true.2 fun e he => pl_fin (hl e he)
  refine for_range (fun i σ T => ∃ w u v, σ = [some d, some (.ref p), u, v] ∧ T = put mt p (.lst w) ∧ szL w + i ≤ 19999 ∧ ∀ e ∈ w, plD 12 e = true) ⟨[d], none, none, rfl, rfl, by simp [szL]; exact hz, fun e he => by rw [List.mem_singleton] at he; subst he; exact hp⟩ ?_ ?_
  · rintro i σ T K' hi ⟨w, u, v, rfl, rfl, hs, hw⟩ hK
    walk_at "f*"
    refine c_eqL0 put_eq (nf hw) ?_
    walk_at "e*"
    rcases List.eq_nil_or_concat w with rfl | ⟨w', x, rfl⟩
    · walk_at "e*"
      exact hk
    rw [List.concat_eq_append] at *
    have en : (w' ++ [x]).isEmpty = false := by cases w' <;> rfl
    rw [en]
    walk_at "e*"
    refine mt_pop0 put_eq ?_
    walk_at "e*"
    rw [put_put]
    have hx := hw x (by simp)
    have hw' : ∀ e ∈ w', plD 12 e = true := fun e he => hw e (by simp [he])
    rw [szL_app] at hs
    have s1 : szL [x] = szD x := by simp [szL]
    have s0 : 1 ≤ szD x := by cases x <;> simp [szD]
    cases x with
    | tup l =>
      walk_at "e*"
      refine mt_extend put_eq rfl ?_ ?_
      · walk_at "e*"
        rw [put_put]
        refine hK _ _ ⟨_, _, _, rfl, rfl, ?_, fun e he => ?_⟩
        · rw [szL_app]
          have : szD (.tup l) = 1 + szL l := rfl
          omega
        · rcases List.mem_append.1 he with he | he
          · exact hw' e he
          · have hx : l.all (plD 11) = true := hx
            exact pl_up (List.all_eq_true.1 hx e he)
      · have a1 : ∀ l : List D, l.length ≤ szL l := fun l => by
          induction l with
          | nil => exact Nat.le_refl _
          | cons e l ih =>
            have : 1 ≤ szD e := by cases e <;> simp [szD]
            show l.length + 1 ≤ szD e + szL l
            omega
        have := a1 w'
        have := a1 l
        have : szD (.tup l) = 1 + szL l := rfl
        show _ ≤ 16777216
        omega
    | non =>
      walk_at "e*"
      exact hK _ _ ⟨_, _, _, rfl, rfl, by omega, hw'⟩
    | int z =>
      walk_at "e*"
      refine w_law_is_int h rfl ?_
      walk_at "e*"
      exact hK _ _ ⟨_, _, _, rfl, rfl, by omega, hw'⟩
    | str z =>
      walk_at "e*"
      exact hK _ _ ⟨_, _, _, rfl, rfl, by omega, hw'⟩
    | bl b => cases hx
    | fz b => cases hx
    | ref b => cases hx
    | tpu b => cases hx
  · rintro σ T ⟨w, u, v, rfl, rfl, hs, hw⟩
    have a1 : w = [] := by
      cases w with
      | nil => rfl
      | cons e w =>
        have : 1 ≤ szD e := by cases e <;> simp [szD]
        have : szL (e :: w) = szD e + szL w := rfl
        omega
    subst a1
    walk_at "f*"
    refine c_eqL0 put_eq rfl ?_
    walk_at "e*"
    exact hk
theorem pr_nat (a b : Nat) : pr ((a : Int), (b : Int)) = .tup [.int a, .int b] := rfl
/-- pairs of size and set, sorted -/
theorem sorted_pairs_nat {l : List Nat} {z : List (Int × Int)} (hp : z.Perm (l.map fun m : Nat => (((pc m : Nat) : Int), (m : Int)))) : ∃ l' : List Nat, l'.Perm l ∧ z = l'.map fun m : Nat => (((pc m : Nat) : Int), (m : Int)) := by
  refine ⟨z.map fun q => q.2.toNat, ?_, ?_⟩
  · have := hp.map fun q : Int × Int => q.2.toNat
    rw [List.map_map] at this
    have e : l.map ((fun q : Int × Int => q.2.toNat) ∘ fun m : Nat => (((pc m : Nat) : Int), (m : Int))) = l := by
      conv => rhs; rw [← List.map_id l]
      exact List.map_congr_left fun m _ => rfl
    rwa [e] at this
  · rw [List.map_map]
    conv => lhs; rw [← List.map_id z]
    refine List.map_congr_left fun q hq => ?_
    obtain ⟨m, _, rfl⟩ := List.mem_map.1 (hp.mem_iff.1 hq)
    simp
theorem uniq_sorted_le {l : List Nat} (h : l.Pairwise fun a b => pc a < pc b ∨ (pc a = pc b ∧ a ≤ b)) : (uniq l).Pairwise olt := by
  have go : ∀ (b a : List Nat), l = a ++ b → (uniq a).Pairwise olt → (uniq (a ++ b)).Pairwise olt := fun b => by
    induction b with
    | nil => intro a _ h; rw [List.append_nil]; exact h
    | cons x b ih =>
      intro a e ha
      have e2 : a ++ x :: b = (a ++ [x]) ++ b := by simp
      rw [e2] at e ⊢
      refine ih (a ++ [x]) e ?_
      rw [uniq_snoc]
      split
      · exact ha
      · rename_i hx
        rw [List.pairwise_append]
        refine ⟨ha, List.pairwise_singleton _ _, fun y hy z hz => ?_⟩
        rw [List.mem_singleton] at hz
        subst hz
        rw [e, List.pairwise_append, List.pairwise_append] at h
        have hy' := (uniq_mem a y).1 hy
        have q := h.1.2.2 y hy' z (by simp)
        have ne : y ≠ z := by rintro rfl; exact hx hy
        unfold olt
        omega
  have := go l [] rfl List.Pairwise.nil
  simpa using this
theorem mrg_back {S S0 : Sto} (sb : Sub S0 S) : mrg S S0 S0 = S := by
  funext a
  unfold mrg
  cases h : S0 a with
  | none => cases h2 : S a <;> rfl
  | some o => rw [sb a o h]
theorem bk_back {S S0 : Sto} {K : DK} {x : D} (sb : Sub S0 S) (k : K x S) : bkX S S0 K x S0 := by
  rw [bkX_eq]
  exact ⟨S0, (fun _ _ h => h), by rw [mrg_back sb]; exact k⟩
/-- a thing that tells the items l -/
def Tells (S0 : Sto) (d : D) (l : List D) : Prop := d = .tup l ∨ d = .fz l ∨ ∃ q, d = .ref q ∧ S0 q = some (.lst l)
theorem Tells.iv {S0 : Sto} {d : D} {l : List D} (h : Tells S0 d l) {K : List D → (Sto → Prop) → Prop} (k : ∀ chk : Sto → Prop, (∀ T, Sub S0 T → chk T) → K l chk) : itvX d S0 K := by
  rcases h with rfl | rfl | ⟨q, rfl, hq⟩
  · exact iv_tup (k _ fun _ _ => trivial)
  · exact iv_fz (k _ fun _ _ => trivial)
  · exact iv_lst hq (k _ fun T sb => sb q _ hq)
theorem getElem?_map_nD {l : List Nat} {j : Nat} (h : j < l.length) : (mD l)[j]? = some (nD l[j]) := by
  unfold mD
  rw [List.getElem?_map, List.getElem?_eq_getElem h]
  rfl
theorem mD_app (l r : List Nat) : mD (l ++ r) = mD l ++ mD r := List.map_append
theorem eraseIdx_map' {α β : Type} (f : α → β) : ∀ (l : List α) (i : Nat), (l.map f).eraseIdx i = (l.eraseIdx i).map f
  | [], i => rfl
  | a :: l, 0 => rfl
  | a :: l, i + 1 => by
    show f a :: (l.map f).eraseIdx i = f a :: (l.eraseIdx i).map f
    rw [eraseIdx_map' f l i]
theorem perm_eraseIdx {α : Type} : ∀ (l : List α) (i : Nat) (h : i < l.length), (l[i] :: l.eraseIdx i).Perm l
  | a :: l, 0, h => List.Perm.refl _
  | a :: l, i + 1, h => by
    have h' : i < l.length := by simpa using h
    show (l[i] :: a :: l.eraseIdx i).Perm (a :: l)
    exact (List.Perm.swap a l[i] _).trans ((perm_eraseIdx l i h').cons a)
theorem rng_mD (n : Nat) : (List.range n).map (fun (k : Nat) => D.int (k : Nat)) = mD (List.range n) := rfl
theorem w_law_pick (h : Has P) {n d b : Nat} {x : D} {l : List D} (hD : Dr d b S) (hx : x = .fz l ∨ x = .tup l) (h0 : 0 < l.length) (hl : l.length < 2 ^ 60) (hb : b < 2 ^ 60)
    (hk : ∀ y ∈ l, ∀ S', Dr d (b + 1) S' → K y S') : callX P (n+2) "_law_pick" [.ref d, x] S K E := by
  refine call_of (σ := [some (.ref d), some x]) h.h_law_pick rfl rfl ?_
  rcases hx with rfl | rfl
  · walk_at "e*"
    refine w_draw h hD (by omega) (by omega) (by omega) fun r S1 hr D1 => ?_
    refine ix_fzN (d := l[r]) (List.getElem?_eq_getElem hr) ?_
    exact fr_no (bk_self (hk _ (List.getElem_mem hr) _ D1))
  · walk_at "e*"
    refine w_draw h hD (by omega) (by omega) (by omega) fun r S1 hr D1 => ?_
    refine ix_tupN (d := l[r]) (List.getElem?_eq_getElem hr) ?_
    exact fr_no (bk_self (hk _ (List.getElem_mem hr) _ D1))
theorem ovr_dis {S F : Sto} {d b : Nat} (hD : Dr d b S) (hF : F d = none) : ∀ a o, F a = some o → S a = none := fun a o e => hD.non (by rintro rfl; rw [hF] at e; cases e)
theorem ovr_new {S F : Sto} {d b p : Nat} (hD : Dr d b S) (hF : F d = none) (hp : ovr F S p = none) : p ≠ d ∧ F p = none := by
  have h1 : F p = none := by
    cases e : F p with
    | none => rfl
    | some o => rw [ovr_some e] at hp; cases hp
  exact ⟨hD.ne (by rw [ovr_none h1] at hp; exact hp), h1⟩

def Closed (rs : List (Nat × Nat)) (m : Nat) : Prop := ∀ r ∈ rs, Le r.1 m → Le r.2 m
instance {rs : List (Nat × Nat)} {m : Nat} : Decidable (Closed rs m) := inferInstanceAs (Decidable (∀ r ∈ rs, Le r.1 m → Le r.2 m))
/-- the least closed set above m -/
structure IsClo (rs : List (Nat × Nat)) (m c : Nat) : Prop where
  up : Le m c
  cl : Closed rs c
  least : ∀ e, Le m e → Closed rs e → Le c e
theorem IsClo.uniq {rs : List (Nat × Nat)} {m c d : Nat} (h : IsClo rs m c) (k : IsClo rs m d) : c = d := (h.least d k.up k.cl).anti (k.least c h.up h.cl)
def step1 (m : Nat) (r : Nat × Nat) : Nat := if Le r.1 m then m ||| r.2 else m
/-- one pass over the rules -/
def pass (rs : List (Nat × Nat)) (m : Nat) : Nat := rs.foldl step1 m
theorem pass_snoc (rs : List (Nat × Nat)) (r : Nat × Nat) (m : Nat) : pass (rs ++ [r]) m = step1 (pass rs m) r := by unfold pass; rw [List.foldl_append]; rfl
theorem step1_le (m : Nat) (r : Nat × Nat) : Le m (step1 m r) := by
  unfold step1
  split
  · exact le_orL _ _
  · exact Le.refl _
theorem pass_le : ∀ (rs : List (Nat × Nat)) (m : Nat), Le m (pass rs m)
  | [], m => Le.refl m
  | r :: rs, m => (step1_le m r).trans (pass_le rs _)
theorem pass_least {e : Nat} : ∀ (rs : List (Nat × Nat)) (m : Nat), (∀ r ∈ rs, Le r.1 e → Le r.2 e) → Le m e → Le (pass rs m) e
  | [], m, _, h => h
  | r :: rs, m, hc, h => by
    refine pass_least rs _ (fun q hq => hc q (List.mem_cons_of_mem _ hq)) ?_
    unfold step1
    split
    · rename_i h1
      exact or_le.2 ⟨h, hc r List.mem_cons_self (h1.trans h)⟩
    · exact h
theorem pass_fix : ∀ (rs : List (Nat × Nat)) (m : Nat), pass rs m = m → Closed rs m
  | [], m, _ => fun r hr => by cases hr
  | r :: rs, m, h => by
    have h1 : step1 m r = m := by
      have := pass_le rs (step1 m r)
      have e : pass rs (step1 m r) = m := h
      rw [e] at this
      exact this.anti (step1_le m r)
    have h3 : pass rs m = m := by
      have e : pass rs (step1 m r) = m := h
      rwa [h1] at e
    intro q hq hl
    rcases List.mem_cons.1 hq with rfl | hq
    · unfold step1 at h1
      rw [if_pos hl] at h1
      rw [← h1]
      exact le_orR _ _
    · exact pass_fix rs m h3 q hq hl
theorem pass_lt {c : Nat} : ∀ (rs : List (Nat × Nat)) (m : Nat), (∀ r ∈ rs, r.2 < 2 ^ c) → m < 2 ^ c → pass rs m < 2 ^ c
  | [], m, _, h => h
  | r :: rs, m, hr, h => by
    refine pass_lt rs (step1 m r) (fun q hq => hr q (List.mem_cons_of_mem _ hq)) ?_
    unfold step1
    split
    · exact or_lt h (hr r List.mem_cons_self)
    · exact h
/-- the rules that hold something new at m -/
def open' (rs : List (Nat × Nat)) (m : Nat) : List (Nat × Nat) := rs.filter fun r => !decide (Le r.2 m)
theorem open_le (rs : List (Nat × Nat)) {m m' : Nat} (h : Le m m') : (open' rs m').length ≤ (open' rs m).length := by
  unfold open'
  rw [← List.countP_eq_length_filter, ← List.countP_eq_length_filter]
  refine List.countP_mono_left fun r _ k => ?_
  rw [Bool.not_eq_true', decide_eq_false_iff_not] at k ⊢
  exact fun q => k (q.trans h)
theorem pass_new : ∀ (rs : List (Nat × Nat)) (m : Nat), pass rs m ≠ m → ∃ r ∈ rs, ¬ Le r.2 m ∧ Le r.2 (pass rs m)
  | [], m, h => (h rfl).elim
  | r :: rs, m, h => by
    by_cases e : step1 m r = m
    · have h2 : pass rs m ≠ m := fun q => h (by show pass rs (step1 m r) = m; rw [e]; exact q)
      obtain ⟨q, h3, h4, h5⟩ := pass_new rs m h2
      refine ⟨q, List.mem_cons_of_mem _ h3, h4, ?_⟩
      show Le q.2 (pass rs (step1 m r))
      rw [e]; exact h5
    · refine ⟨r, List.mem_cons_self, ?_, ?_⟩
      · intro hl
        apply e
        unfold step1
        split
        · exact (or_le.2 ⟨Le.refl m, hl⟩).anti (le_orL _ _)
        · rfl
      · have : Le r.2 (step1 m r) := by
          unfold step1 at e ⊢
          split at e
          · rename_i hl
            rw [if_pos hl]
            exact le_orR _ _
          · exact (e rfl).elim
        exact this.trans (pass_le rs _)
/-- passes over the rules -/
def passes (rs : List (Nat × Nat)) : Nat → Nat → Nat
  | 0, m => m
  | k + 1, m => pass rs (passes rs k m)
theorem passes_le (rs : List (Nat × Nat)) : ∀ (k m : Nat), Le m (passes rs k m)
  | 0, m => Le.refl m
  | k + 1, m => (passes_le rs k m).trans (pass_le rs _)
theorem passes_open (rs : List (Nat × Nat)) (m : Nat) : ∀ k, pass rs (passes rs k m) = passes rs k m ∨ (open' rs (passes rs k m)).length + k ≤ rs.length
  | 0 => .inr (List.length_filter_le _ _)
  | k + 1 => by
    show pass rs (pass rs (passes rs k m)) = pass rs (passes rs k m) ∨ (open' rs (pass rs (passes rs k m))).length + (k + 1) ≤ rs.length
    rcases passes_open rs m k with h | h
    · left
      rw [h, h]
    · by_cases e : pass rs (passes rs k m) = passes rs k m
      · left
        rw [e, e]
      · right
        obtain ⟨r, hr, h1, h2⟩ := pass_new rs _ e
        have lt : (open' rs (pass rs (passes rs k m))).length < (open' rs (passes rs k m)).length := by
          have gen : ∀ (l : List (Nat × Nat)) (a b : Nat), Le a b → r ∈ l → ¬ Le r.2 a → Le r.2 b → (open' l b).length < (open' l a).length := fun l a b hab => by
            induction l with
            | nil => intro h; cases h
            | cons x l ih =>
              intro hm n1 n2
              unfold open' at ih ⊢
              rcases List.mem_cons.1 hm with rfl | hm
              · rw [List.filter_cons_of_neg (by simpa using n2), List.filter_cons_of_pos (by simpa using n1), List.length_cons]
                have := open_le l hab
                unfold open' at this
                omega
              · have q := ih hm n1 n2
                by_cases c1 : Le x.2 b
                · rw [List.filter_cons_of_neg (by simpa using c1)]
                  by_cases c2 : Le x.2 a
                  · rw [List.filter_cons_of_neg (by simpa using c2)]; exact q
                  · rw [List.filter_cons_of_pos (by simpa using c2), List.length_cons]; omega
                · have c2 : ¬ Le x.2 a := fun h => c1 (h.trans hab)
                  rw [List.filter_cons_of_pos (by simpa using c1), List.filter_cons_of_pos (by simpa using c2), List.length_cons, List.length_cons]; omega
          exact gen rs _ _ (pass_le rs _) hr h1 h2
        omega
/-- the closure -/
def clo (rs : List (Nat × Nat)) (m : Nat) : Nat := passes rs (rs.length + 1) m
theorem clo_is (rs : List (Nat × Nat)) (m : Nat) : IsClo rs m (clo rs m) := by
  have fx : pass rs (clo rs m) = clo rs m := by
    rcases passes_open rs m (rs.length + 1) with h | h
    · exact h
    · omega
  refine ⟨passes_le rs _ m, pass_fix rs _ fx, fun e h1 h2 => ?_⟩
  have : ∀ k, Le (passes rs k m) e := fun k => by
    induction k with
    | zero => exact h1
    | succ k ih => exact pass_least rs _ h2 ih
  exact this _
theorem clo_lt {rs : List (Nat × Nat)} {m c : Nat} (hr : ∀ r ∈ rs, r.2 < 2 ^ c) (hm : m < 2 ^ c) : clo rs m < 2 ^ c := by
  have : ∀ k, passes rs k m < 2 ^ c := fun k => by
    induction k with
    | zero => exact hm
    | succ k ih => exact pass_lt rs _ hr ih
  exact this _
theorem clo_eq {rs : List (Nat × Nat)} {m q : Nat} (h : IsClo rs m q) : clo rs m = q := (clo_is rs m).uniq h
theorem clo_closed {rs : List (Nat × Nat)} {m : Nat} : Closed rs m ↔ clo rs m = m :=
  ⟨fun h => clo_eq ⟨Le.refl m, h, fun _ h _ => h⟩, fun h => h ▸ (clo_is rs m).cl⟩
theorem full_closed {rs : List (Nat × Nat)} {c : Nat} (hr : ∀ r ∈ rs, r.2 < 2 ^ c) : Closed rs (full c) := fun r h _ => le_full.2 (hr r h)
theorem Rs.r2 {c : Nat} {rs : List (Nat × Nat)} (h : Rs c rs) : ∀ r ∈ rs, r.2 < 2 ^ c := fun r hr => (h r hr).2.1
theorem closed_snoc {rs : List (Nat × Nat)} {r : Nat × Nat} {m : Nat} : Closed (rs ++ [r]) m ↔ Closed rs m ∧ (Le r.1 m → Le r.2 m) := by
  constructor
  · intro h
    exact ⟨fun q hq => h q (by simp [hq]), h r (by simp)⟩
  · rintro ⟨h1, h2⟩ q hq
    rw [List.mem_append, List.mem_singleton] at hq
    rcases hq with hq | rfl
    · exact h1 q hq
    · exact h2
theorem closed_congr {a b : List (Nat × Nat)} (h : ∀ r, r ∈ a ↔ r ∈ b) (m : Nat) : Closed a m ↔ Closed b m :=
  ⟨fun k r hr => k r ((h r).2 hr), fun k r hr => k r ((h r).1 hr)⟩
theorem clo_congr {a b : List (Nat × Nat)} (h : ∀ m, Closed a m ↔ Closed b m) (m : Nat) : clo a m = clo b m :=
  clo_eq ⟨(clo_is b m).up, (h _).2 (clo_is b m).cl, fun e h1 h2 => (clo_is b m).least e h1 ((h e).1 h2)⟩
theorem bit_le {i m : Nat} : Le (1 <<< i) m ↔ m.testBit i = true := by
  rw [le_bits]
  constructor
  · intro h
    exact h i (by rw [shl_one_bit]; simp)
  · intro h j hj
    rw [shl_one_bit, decide_eq_true_eq] at hj
    exact hj ▸ h
/-- a bound for the rules that a worn book has -/
def wtR (rs : List (Nat × Nat)) : Nat := (rs.map fun r => max 1 (pc r.2)).sum
theorem wtR_snoc (a : List (Nat × Nat)) (q : Nat × Nat) : wtR (a ++ [q]) = wtR a + max 1 (pc q.2) := by unfold wtR; rw [List.map_append, List.sum_append]; simp
theorem pc_bit (i : Nat) : pc (1 <<< i) = 1 := by
  have : [i] = bits (1 <<< i) := bits_ext (List.pairwise_singleton _ _) fun j => by
    rw [shl_one_bit, decide_eq_true_eq, List.mem_singleton]
    exact eq_comm
  unfold pc
  rw [← this]
  rfl
theorem wtR_le {c : Nat} (hc : c ≤ 6) : ∀ {rs : List (Nat × Nat)}, Rs c rs → wtR rs ≤ 6 * rs.length
  | [], _ => Nat.le_refl _
  | r :: rs, h => by
    have h1 := wtR_le hc (rs := rs) (h.sub fun q hq => List.mem_cons_of_mem _ hq)
    have h2 := pc_le (h r (by simp)).2.1
    show max 1 (pc r.2) + wtR rs ≤ 6 * (rs.length + 1)
    omega
theorem wtR_perm {a b : List (Nat × Nat)} (h : a.Perm b) : wtR a = wtR b := (h.map _).sum_nat
theorem wtR_take (a : List (Nat × Nat)) (n : Nat) : wtR (a.take n) ≤ wtR a := by
  have e : wtR a = wtR (a.take n) + wtR (a.drop n) := by
    unfold wtR
    rw [← List.sum_append, ← List.map_append, List.take_append_drop]
  omega
/-- the closed sets, in told order -/
def closedSets (c : Nat) (rs : List (Nat × Nat)) : List Nat := (sets c).filter fun m => decide (Closed rs m)
theorem closedSets_mem {c m : Nat} {rs : List (Nat × Nat)} : m ∈ closedSets c rs ↔ m < 2 ^ c ∧ Closed rs m := by
  unfold closedSets
  rw [List.mem_filter, sets_mem, decide_eq_true_eq]
/-- the closure is the meet of the closed sets above -/
theorem clo_meet {c m : Nat} {rs : List (Nat × Nat)} (hr : ∀ r ∈ rs, r.2 < 2 ^ c) (hm : m < 2 ^ c) : meetTo (full c) ((closedSets c rs).filter fun o => decide (Le m o)) = clo rs m := by
  have i := clo_is rs m
  have hl := clo_lt hr hm
  refine Le.anti ?_ (le_meetTo.2 ⟨le_full.2 hl, fun o ho => ?_⟩)
  · refine meetTo_lem ?_
    rw [List.mem_filter, closedSets_mem]
    exact ⟨⟨hl, i.cl⟩, decide_eq_true i.up⟩
  · rw [List.mem_filter, closedSets_mem, decide_eq_true_eq] at ho
    exact i.least o ho.2 ho.1.2
/-- the rules that two rows with this agreement break -/
def breakers (rs : List (Nat × Nat)) (m : Nat) : List Nat := (rs.zipIdx.filter fun x => decide (Le x.1.1 m) && !decide (Le x.1.2 m)).map (·.2)
/-- is this a set of columns? -/
def isMask (d : D) (c : Nat) : Bool := match d with
  | .int z => decide (0 ≤ z ∧ z ≤ (full c : Nat))
  | _ => false
theorem isMask_nD (m c : Nat) : isMask (nD m) c = decide (m < 2 ^ c) := by
  show decide _ = _
  refine decide_eq_decide.2 ?_
  have := Nat.two_pow_pos c
  unfold full
  omega
theorem nodup_len : ∀ (N : Nat) (l : List Nat), l.Nodup → (∀ m ∈ l, m < N) → l.length ≤ N
  | 0, l, _, h => by
    cases l with
    | nil => exact Nat.le_refl _
    | cons a l => exact absurd (h a List.mem_cons_self) (Nat.not_lt_zero _)
  | N+1, l, hn, h => by
    by_cases hm : N ∈ l
    · have h1 := nodup_len N (l.erase N) (hn.erase N) fun m hm2 => by
        rw [List.Nodup.mem_erase_iff hn] at hm2
        have := h m hm2.2
        omega
      rw [List.length_erase_of_mem hm] at h1
      omega
    · have h1 := nodup_len N l hn fun m hm2 => by
        have h2 := h m hm2
        have h3 : m ≠ N := fun e => hm (e ▸ hm2)
        omega
      omega
/-- all meets of sets with a top -/
def meetsOf (top : Nat) (l : List Nat) : List Nat := l.foldl (fun acc m => uniq (acc ++ acc.map (· &&& m))) [top]
theorem meetsOf_snoc (top : Nat) (l : List Nat) (m : Nat) : meetsOf top (l ++ [m]) = uniq (meetsOf top l ++ (meetsOf top l).map (· &&& m)) := by unfold meetsOf; rw [List.foldl_append]; rfl
theorem meetsOf_mem {top m : Nat} {l : List Nat} : m ∈ meetsOf top l ↔ ∃ s : List Nat, (∀ x ∈ s, x ∈ l) ∧ meetTo top s = m := by
  have go : ∀ (b a : List Nat), l = a ++ b → (∀ m, m ∈ meetsOf top a ↔ ∃ s : List Nat, (∀ x ∈ s, x ∈ a) ∧ meetTo top s = m) → (m ∈ meetsOf top l ↔ ∃ s : List Nat, (∀ x ∈ s, x ∈ l) ∧ meetTo top s = m) := fun b => by
    induction b with
    | nil => intro a e h; rw [List.append_nil] at e; subst e; exact h m
    | cons x b ih =>
      intro a e h
      refine ih (a ++ [x]) (by rw [e]; simp) fun m => ?_
      rw [meetsOf_snoc, uniq_mem, List.mem_append, List.mem_map]
      constructor
      · rintro (q | ⟨y, hy, rfl⟩)
        · obtain ⟨s, h1, h2⟩ := (h m).1 q
          exact ⟨s, fun z hz => List.mem_append_left _ (h1 z hz), h2⟩
        · obtain ⟨s, h1, h2⟩ := (h y).1 hy
          refine ⟨s ++ [x], fun z hz => ?_, by rw [meetTo_snoc, h2]⟩
          rw [List.mem_append, List.mem_singleton] at hz
          rcases hz with hz | rfl
          · exact List.mem_append_left _ (h1 z hz)
          · simp
      · rintro ⟨s, h1, h2⟩
        by_cases hx : x ∈ s
        · right
          refine ⟨meetTo top (s.filter (· ≠ x)), (h _).2 ⟨s.filter (· ≠ x), fun z hz => ?_, rfl⟩, ?_⟩
          · rw [List.mem_filter] at hz
            have := h1 z hz.1
            rw [List.mem_append, List.mem_singleton] at this
            have hz2 : z ≠ x := by simpa using hz.2
            exact this.resolve_right hz2
          · rw [← h2]
            apply Nat.eq_of_testBit_eq
            intro i
            rw [Nat.testBit_and, meetTo_bit, meetTo_bit, Bool.eq_iff_iff]
            simp only [Bool.and_eq_true, List.all_eq_true, List.mem_filter]
            constructor
            · rintro ⟨⟨a1, a2⟩, a3⟩
              refine ⟨a1, fun y hy => ?_⟩
              by_cases e2 : y = x
              · rw [e2]; exact a3
              · exact a2 y ⟨hy, by simpa using e2⟩
            · rintro ⟨a1, a2⟩
              exact ⟨⟨a1, fun y hy => a2 y hy.1⟩, a2 x hx⟩
        · left
          refine (h m).2 ⟨s, fun z hz => ?_, h2⟩
          have := h1 z hz
          rw [List.mem_append, List.mem_singleton] at this
          exact this.resolve_right (by rintro rfl; exact hx hz)
  refine go l [] rfl fun m => ?_
  show m ∈ [top] ↔ _
  rw [List.mem_singleton]
  constructor
  · rintro rfl; exact ⟨[], fun x h => (nomatch h), rfl⟩
  · rintro ⟨s, h1, h2⟩
    cases s with
    | nil => exact h2.symm
    | cons a s => exact absurd (h1 a List.mem_cons_self) (by simp)
/-- a set is a meet exactly if it is the meet of those above it -/
theorem meets_self {top m : Nat} {l : List Nat} : m ∈ meetsOf top l ↔ meetTo top (l.filter fun o => decide (Le m o)) = m := by
  rw [meetsOf_mem]
  constructor
  · rintro ⟨s, h1, rfl⟩
    refine Le.anti ?_ ?_
    · refine le_meetTo.2 ⟨meetTo_le _ _, fun x hx => ?_⟩
      exact meetTo_lem (by rw [List.mem_filter]; exact ⟨h1 x hx, decide_eq_true (meetTo_lem hx)⟩)
    · refine le_meetTo.2 ⟨meetTo_le _ _, fun x hx => ?_⟩
      rw [List.mem_filter] at hx
      exact of_decide_eq_true hx.2
  · intro h
    exact ⟨_, fun x hx => (List.mem_filter.1 hx).1, h⟩
theorem meetsOf_lt {top c : Nat} {l : List Nat} (h : top < 2 ^ c) : ∀ m ∈ meetsOf top l, m < 2 ^ c := fun m hm => by
  obtain ⟨s, _, rfl⟩ := meetsOf_mem.1 hm
  exact meetTo_lt _ h
theorem meetsOf_nodup (top : Nat) (l : List Nat) : (meetsOf top l).Nodup := by
  rcases List.eq_nil_or_concat l with rfl | ⟨l', x, rfl⟩
  · show [top].Nodup; simp
  · rw [List.concat_eq_append, meetsOf_snoc]; exact uniq_nodup _
theorem meetsOf_len {top c : Nat} {l : List Nat} (h : top < 2 ^ c) : (meetsOf top l).length ≤ 2 ^ c :=
   nodup_len _ _ (meetsOf_nodup top l) (meetsOf_lt h)
theorem uniq_app_map {acc : List Nat} (m : Nat) (hn : acc.Nodup) : ∀ a b, acc = a ++ b → uniq (acc ++ a.map (· &&& m)) = a.foldl (fun t k => if (k &&& m) ∈ t then t else t ++ [k &&& m]) acc := fun a b e => by
  have e0 : uniq acc = acc := by
    have go : ∀ (l t : List Nat), (t ++ l).Nodup → l.foldl (fun acc m => if m ∈ acc then acc else acc ++ [m]) t = t ++ l := fun l => by
      induction l with
      | nil => intro t _; simp
      | cons x l ih =>
        intro t h
        have hx : x ∉ t := fun hx => by
          rw [List.nodup_append] at h
          exact h.2.2 x hx x List.mem_cons_self rfl
        rw [List.foldl_cons, if_neg hx, ih (t ++ [x]) (by simpa using h)]
        simp
    exact go acc [] (by simpa using hn)
  unfold uniq at e0 ⊢
  rw [List.foldl_append, e0, List.foldl_map]
theorem hds_hit {x : Xc} {c : Str} {h : Hss} {r : List (Str × Hss)} {σ : Loc} {S : Sto} {D : Ks} (hc : subC x.cls c = true) (k : hssW x h σ S D) : hdsW x σ S D ((c, h) :: r) := by
  unfold hdsW
  rw [if_pos hc]
  exact k
theorem as_hit {x : Xc} {c : Str} {i : Nat} {h : Hss} {σ : Loc} {S : Sto} {D : Ks} (hc : subC x.cls c = true)
    (k : hssW x h (σ.set i none) S { D with nx := fun σ2 S2 => D.nx (σ2.set i none) S2, bk := fun σ2 S2 => D.bk (σ2.set i none) S2, ct := fun σ2 S2 => D.ct (σ2.set i none) S2 }) : asW x c i h σ S D := by
  unfold asW
  rw [if_pos hc]
  exact k
theorem hs_ret {x : Xc} {e : Hx} {r : Hss} {σ : Loc} {S : Sto} {D : Ks} (d : Ev.D) (he : hxD x σ S e = some d) (k : D.rt d S) : hssW x (.cons (.ret e) r) σ S D := ⟨d, he, k⟩
theorem hs_if {x : Xc} {c : Hx} {a b r : Hss} {σ : Loc} {S : Sto} {D : Ks} (k : Bool) (d : Ev.D) (he : hxD x σ S c = some d) (ht : truth? S d = some k)
    (h : if k = true then hssW x a σ S { D with nx := fun σ' S' => hssW x r σ' S' D } else hssW x b σ S { D with nx := fun σ' S' => hssW x r σ' S' D }) : hssW x (.cons (.iff c a b) r) σ S D := ⟨d, he, k, ht, h⟩
theorem hs_skip {x : Xc} {c : Hx} {a r : Hss} {σ : Loc} {S : Sto} {D : Ks} (d : Ev.D) (he : hxD x σ S c = some d) (ht : truth? S d = some false) (h : hssW x r σ S D) : hssW x (.cons (.iff c a .nil) r) σ S D :=
  hs_if false d he ht (by rw [if_neg Bool.false_ne_true]; exact h)
theorem hs_nil {x : Xc} {σ : Loc} {S : Sto} {D : Ks} (k : D.nx σ S) : hssW x .nil σ S D := k
theorem hx_isx {x : Xc} {σ : Loc} {S : Sto} {cs : List Str} {b : Bool} (h : (cs.any fun c => subC x.cls c) = b) : hxD x σ S (.isx cs) = some (.bl b) := by
  show some (D.bl (cs.any fun c => subC x.cls c)) = _
  rw [h]
theorem hx_not {x : Xc} {σ : Loc} {S : Sto} {e : Hx} {d : Ev.D} {b : Bool} (h : hxD x σ S e = some d) (t : truth? S d = some b) : hxD x σ S (.not e) = some (.bl (!b)) := by
  show ((hxD x σ S e).bind fun d => (truth? S d).map fun b => D.bl (!b)) = _
  rw [h, Option.bind_some, t]
  rfl
theorem hx_att {x : Xc} {σ : Loc} {S : Sto} {f : Str} {d : Ev.D} (h : x.fs.lookup f = some d) : hxD x σ S (.att f) = some d := h
theorem hx_tup2 {x : Xc} {σ : Loc} {S : Sto} {a b : Hx} {d e : Ev.D} (h1 : hxD x σ S a = some d) (h2 : hxD x σ S b = some e) : hxD x σ S (.tup (.cons a (.cons b .nil))) = some (.tup [d, e]) := by
  show (((hxD x σ S a).bind fun d => (((hxD x σ S b).bind fun d => (some []).map (d :: ·)).map (d :: ·))).map D.tup) = _
  rw [h1, h2]
  rfl
theorem hx_ite {x : Xc} {σ : Loc} {S : Sto} {c a b : Hx} {d e : Ev.D} {k : Bool} (h1 : hxD x σ S c = some d) (t : truth? S d = some k) (h2 : (if k = true then hxD x σ S a else hxD x σ S b) = some e) : hxD x σ S (.ite c a b) = some e := by
  show ((hxD x σ S c).bind fun d => (truth? S d).bind fun k => if k = true then hxD x σ S a else hxD x σ S b) = _
  rw [h1, Option.bind_some, t, Option.bind_some]
  exact h2
/-- no object that may change within n layers of tuples -/
def cl : Nat → D → Bool
  | _, .ref _ => false
  | _, .tpu _ => false
  | n + 1, .tup l => l.all (cl n)
  | _, _ => true
theorem cl_fl {n : Nat} {d : D} (h : cl n d = true) : flD d = true := by
  cases d with
  | ref a => cases n <;> simp [cl] at h
  | tpu a => cases n <;> simp [cl] at h
  | _ => rfl
theorem cl_tup {n : Nat} {l : List D} (h : cl (n + 1) (.tup l) = true) : ∀ d ∈ l, cl n d = true := fun d hd => List.all_eq_true.1 (by simpa [cl] using h) d hd
def zerD : D → Bool
  | .int z => z == 0
  | _ => false
def shS : Str := "shape"
def leS : Str := "left"
def riS : Str := "right"
def coS : Str := "columns"
def ruS : Str := "rules"
/-- what is wrong with a rule -/
def rulW (c : Nat) : D → Option Str
  | .tup [a, b] => if isMask a c = true then (if isMask b c = true then (if zerD b = true then some riS else none) else some riS) else some leS
  | _ => some shS
def rulsF (c : Nat) : Nat → List D → Option (D × D)
  | _, [] => none
  | k, r :: l => match rulW c r with
    | some w => some (.int (k : Nat), .str w)
    | none => rulsF c (k + 1) l
/-- what is wrong with a book: the rule, the reason -/
def bok3 (c : Nat) : D → Option (D × D)
  | .tup l => if l.length ≤ 64 then rulsF c 0 l else some (.non, .str ruS)
  | _ => some (.non, .str ruS)
def bok2 (r : D) : D → Option (D × D)
  | .int z => if 1 ≤ z ∧ z ≤ 6 then bok3 z.toNat r else some (.non, .str coS)
  | _ => some (.non, .str coS)
def bokF : D → Option (D × D)
  | .tup [c, r] => bok2 r c
  | _ => some (.non, .str shS)
def bbX (p : D × D) : Xc := ⟨"BadBook", [("rule", p.1), ("reason", p.2)]⟩
theorem if_nbool {b : Bool} {p q : Prop} (h1 : b = false → p) (h2 : b = true → q) : if (!b) = true then p else q := by
  cases b with
  | true => exact h2 rfl
  | false => exact h1 rfl
theorem bb_rule (p : D × D) : (bbX p).fs.lookup (Str.ofString "rule") = some p.1 := by
  show ([((Str.ofString "rule"), p.1), ((Str.ofString "reason"), p.2)] : List (Str × D)).lookup _ = _
  simp [List.lookup]
theorem bb_reason (p : D × D) : (bbX p).fs.lookup (Str.ofString "reason") = some p.2 := by
  have e : ((Str.ofString "reason") == (Str.ofString "rule")) = false := by decide +kernel
  show ([((Str.ofString "rule"), p.1), ((Str.ofString "reason"), p.2)] : List (Str × D)).lookup _ = _
  simp [List.lookup, e]
theorem for_enumI {l : List D} {body : D → Loc → Sto → (Loc → Sto → Prop) → Prop} {K : Loc → Sto → Prop} {σ : Loc} (I : List D → Loc → Sto → Prop) (h0 : I [] σ S)
    (st : ∀ a x b σ S K, l = a ++ x :: b → I a σ S → (∀ σ' S', I (a ++ [x]) σ' S' → K σ' S') → body (.tpu [.int (a.length : Nat), x]) σ S K) (hd : ∀ σ S, I l σ S → K σ S) :
    forX (fun _ => True) body (l.zipIdx.map fun p => .tpu [.int p.2, p.1]) σ S K := by
  have q := for_enum (f := id) (l := l) (body := body) (K := K) I h0 st hd
  rwa [List.map_id] at q
/-- is_integer(thing, low, high) -/
def isBet (d : D) (a b : Int) : Bool := match d with
  | .int z => decide (a ≤ z ∧ z ≤ b)
  | _ => false
theorem w_is_integer (h : Has P) {n : Nat} {d : D} {a b : Int} (hd : flD d = true) (hk : K (.bl (isBet d a b)) S) : callX P (n+1) "is_integer" [d, .int a, .int b] S K E := by
  refine call_mt (σ := [some d, some (.int a), some (.int b)]) h.h_is_integer rfl rfl ?_
  cases d with
  | ref a => cases hd
  | tpu a => cases hd
  | int z =>
    walk_at "e*"
    refine if_dec (fun h1 => ?_) (fun h1 => ?_)
    · walk_at "e*"
      have e : isBet (.int z) a b = decide (z ≤ b) := by
        show decide _ = _
        exact decide_eq_decide.2 ⟨fun q => q.2, fun q => ⟨h1, q⟩⟩
      rw [e] at hk
      exact hk
    · walk_at "e*"
      have e : isBet (.int z) a b = false := decide_eq_false fun q => h1 q.1
      rw [e] at hk
      exact hk
  | _ =>
    walk_at "e*"
    exact hk
def rowS : Str := "rows"
def haS : Str := "hand"
def raS : Str := "rank"
def weS : Str := "weight"
def ceS : Str := "cells"
/-- what is wrong with a row's cells -/
def celW (c : Nat) : D → Option Str
  | .tup l => if l.length = c ∧ (l.all fun x => isBet x 0 999) = true then none else some ceS
  | _ => some ceS
/-- what is wrong with a row -/
def rowW (c : Nat) : D → Option Str
  | .tup [h, r, w, x] => if isBet h 0 7 = true then (if isBet r 0 9 = true then (if isBet w 1 1000 = true then celW c x else some weS) else some raS) else some haS
  | _ => some shS
theorem lc_mI {l : List D} {chk : Sto → Prop} {turn : D → Sto → (Option D → Sto → Prop) → Prop} {K : List D → Sto → Prop} {S : Sto} (g : D → D) (hc : chk S) (hz : l.length ≤ line)
    (st : ∀ x ∈ l, ∀ Kt : Option D → Sto → Prop, Kt (some (g x)) S → turn x S Kt) (hd : K (l.map g) S) : lcX chk turn l [] S K := by
  have q := lc_mC (f := id) (l := l) (turn := turn) (K := K) g hc hz st hd
  rwa [List.map_id] at q
def soD : Option Str → D
  | none => .non
  | some s => .str s
theorem w_wrong_row (h : Has P) {n c : Nat} {r : D} (hc : c ≤ 64) (hr : cl 2 r = true) (hk : K (soD (rowW c r)) S) : callX P (n+2) "wrong_row" [.int c, r] S K E := by
  refine call_mt (σ := [some (.int c), some r, none, none, none, none, none]) h.h_wrong_row rfl rfl ?_
  cases r with
  | ref a => simp [cl] at hr
  | tpu a => simp [cl] at hr
  | tup l =>
    rcases l with _ | ⟨a, _ | ⟨b, _ | ⟨w, _ | ⟨x, _ | ⟨y, l⟩⟩⟩⟩⟩
    · walk_at "e*"
      exact hk
    · walk_at "e*"
      exact hk
    · walk_at "e*"
      exact hk
    · walk_at "e*"
      exact hk
    · have ha := cl_fl (cl_tup hr a (by simp))
      have hb := cl_fl (cl_tup hr b (by simp))
      have hw := cl_fl (cl_tup hr w (by simp))
      have hx := cl_tup hr x (by simp)
      have e0 : rowW c (.tup [a, b, w, x]) = if isBet a 0 7 = true then (if isBet b 0 9 = true then (if isBet w 1 1000 = true then celW c x else some weS) else some raS) else some haS := rfl
      rw [e0] at hk
      walk_at "e*"
      refine w_is_integer h ha ?_
      walk_at "e*"
      refine if_nbool (fun h1 => ?_) (fun h1 => ?_)
      · rw [show isBet a 0 7 = false from h1, if_neg Bool.false_ne_true] at hk
        walk_at "e*"
        exact hk
      rw [show isBet a 0 7 = true from h1, if_pos rfl] at hk
      walk_at "e*"
      refine w_is_integer h hb ?_
      walk_at "e*"
      refine if_nbool (fun h2 => ?_) (fun h2 => ?_)
      · rw [show isBet b 0 9 = false from h2, if_neg Bool.false_ne_true] at hk
        walk_at "e*"
        exact hk
      rw [show isBet b 0 9 = true from h2, if_pos rfl] at hk
      walk_at "e*"
      refine w_is_integer h hw ?_
      walk_at "e*"
      refine if_nbool (fun h3 => ?_) (fun h3 => ?_)
      · rw [show isBet w 1 1000 = false from h3, if_neg Bool.false_ne_true] at hk
        walk_at "e*"
        exact hk
      rw [show isBet w 1 1000 = true from h3, if_pos rfl] at hk
      cases x with
      | ref a => simp [cl] at hx
      | tpu a => simp [cl] at hx
      | tup l =>
        have hin := cl_tup hx
        have e1 : celW c (.tup l) = if l.length = c ∧ (l.all fun x => isBet x 0 999) = true then none else some ceS := rfl
        rw [e1] at hk
        walk_at "e*"
        refine if_ndec (fun h4 => ?_) (fun h4 => ?_)
        · rw [if_neg (fun q => h4 q.1)] at hk
          walk_at "e*"
          exact hk
        walk_at "e*"
        refine lc_mI (fun x => .bl (isBet x 0 999)) trivial (by rw [h4]; show c ≤ 16777216; omega) (fun x hx Kt k => ?_) ?_
        · walk_at "e*"
          exact w_is_integer h (cl_fl (hin x hx)) k
        walk_at "f*"
        refine if_nbool (fun h5 => ?_) (fun h5 => ?_)
        · rw [if_neg (fun q => by rw [q.2] at h5; cases h5)] at hk
          walk_at "e*"
          exact hk
        · rw [if_pos ⟨h4, h5⟩] at hk
          walk_at "e*"
          exact hk
      | _ =>
        walk_at "e*"
        exact hk
    · walk_at "e*"
      exact hk
  | _ =>
    walk_at "e*"
    exact hk
def bks (p : D × D) : Xc := ⟨"BadTable", [("row", p.1), ("reason", p.2)]⟩
def rowsF (c : Nat) : Nat → List D → Option (D × D)
  | _, [] => none
  | k, r :: l => match rowW c r with
    | some w => some (.int (k : Nat), .str w)
    | none => rowsF c (k + 1) l
/-- what is wrong with a table: the row, the reason -/
def tabF (c : Nat) : D → Option (D × D)
  | .tup l => if l.length ≤ 64 then rowsF c 0 l else some (.non, .str rowS)
  | _ => some (.non, .str shS)
theorem rowW_ok {c : Nat} {r : D} {w : Str} (h : rowW c r = some w) : w = shS ∨ w = haS ∨ w = raS ∨ w = weS ∨ w = ceS := by
  unfold rowW at h
  split at h
  · split at h
    · split at h
      · split at h
        · unfold celW at h
          split at h
          · split at h
            · cases h
            · cases h; simp
          · cases h; simp
        · cases h; simp
      · cases h; simp
    · cases h; simp
  · cases h; simp
theorem w_check_table (h : Has P) {n c : Nat} {d : D} (hc : c ≤ 64) (hd : cl 3 d = true) (hk : tabF c d = none → K .non S) (he : ∀ p, tabF c d = some p → E (bks p) S) : callX P (n+4) "check_table" [.int c, d] S K E := by
  refine call_mt (σ := [some (.int c), some d, none, none, none]) h.h_check_table rfl rfl ?_
  have bad : ∀ (x : D) (w : Str), tabF c d = some (x, .str w) → fmtD x = true → fmtD (.str w) = true → ([x, D.str w] : List D).length = (["row", "reason"] : List Str).length ∧ (true = true → ([x, D.str w] : List D).all fmtD = true) ∧ bkE S mt E ⟨"BadTable", (["row", "reason"] : List Str).zip [x, D.str w]⟩ mt := fun x w hw hx hf => by
    refine ⟨rfl, fun _ => ?_, be_mt (he _ hw)⟩
    simp only [List.all_cons, List.all_nil, Bool.and_true, hf, hx, Bool.and_self]
  cases d with
  | ref a => simp [cl] at hd
  | tpu a => simp [cl] at hd
  | tup l =>
    walk_at "e*"
    refine if_dec (fun h3 => ?_) (fun h3 => ?_)
    · walk_at "e*"
      exact bad .non rowS (by show (if l.length ≤ 64 then _ else _) = _; rw [if_neg (by omega)]) rfl rfl
    have e1 : tabF c (.tup l) = rowsF c 0 l := by
      show (if l.length ≤ 64 then _ else _) = _
      rw [if_pos (by omega)]
    walk_at "e*"
    refine for_enumI (fun a σ T => ∃ u v w, σ = [some (.int c), some (.tup l), u, v, w] ∧ T = Ev.mt ∧ ∀ b, l = a ++ b → rowsF c 0 l = rowsF c a.length b) ⟨none, none, none, rfl, rfl, fun b e => by rw [e]; rfl⟩ ?_ ?_
    · rintro a x b σ T K2 e ⟨u, v, w, rfl, rfl, hi⟩ hK
      have hi' := hi _ e
      have hx : cl 2 x = true := cl_tup hd x (by rw [e]; simp)
      walk_at "e*"
      refine w_wrong_row h hc hx ?_
      cases hw : rowW c x with
      | none =>
        walk_at "e*"
        refine hK _ _ ⟨_, _, _, rfl, rfl, fun b' e' => ?_⟩
        have eb : b = b' := by
          rw [e, List.append_assoc] at e'
          exact (List.cons.inj (List.append_cancel_left e')).2
        subst eb
        rw [hi']
        show (match rowW c x with | some w => _ | none => rowsF c (a.length + 1) b) = _
        rw [hw, List.length_append]
        rfl
      | some w =>
        have lg : fmtD (.int (a.length : Nat)) = true := by
          have hal : a.length ≤ l.length := by rw [e]; simp
          have := log_lt (x := a.length) (k := 64) (by omega)
          refine decide_eq_true ?_
          rw [Int.natAbs_natCast]
          omega
        rw [show soD (some w) = .str w from rfl]
        walk_at "e*"
        · exact bad (.int (a.length : Nat)) w (by
            rw [e1, hi']
            show (match rowW c x with | some w => some (D.int (a.length : Nat), D.str w) | none => _) = _
            rw [hw]) lg (by rcases rowW_ok hw with rfl | rfl | rfl | rfl | rfl <;> rfl)
    · rintro σ T ⟨u, v, w, rfl, rfl, hi⟩
      walk_at "e*"
      exact hk (by rw [e1, hi [] (List.append_nil _).symm]; rfl)
  | _ =>
    walk_at "e*"
    exact bad .non shS rfl rfl rfl
theorem w_is_table (h : Has P) {n c : Nat} {d : D} (hc : c ≤ 64) (hd : cl 3 d = true) (hk : K (.bl (tabF c d).isNone) S) : callX P (n+5) "is_table" [.int c, d] S K E := by
  refine call_mt (σ := [some (.int c), some d]) h.h_is_table rfl rfl ?_
  walk_at "e*"
  refine w_check_table h hc hd (fun hn => ?_) (fun p hp => ?_)
  · rw [hn] at hk
    walk_at "e*"
    exact hk
  · rw [hp] at hk
    refine ⟨List.mem_singleton.2 rfl, hds_hit (show subC (Str.ofString "BadTable") (Str.ofString "BadTable") = true by decide +kernel) (hs_ret _ rfl (bk_mt hk))⟩

/-- ascending ints from lo to hi -/
def upF (hi : Int) : Int → List D → Bool
  | _, [] => true
  | lo, .int z :: l => decide (lo ≤ z ∧ z ≤ hi) && upF hi (z + 1) l
  | _, _ :: _ => false
/-- a set of rows: an ascending tuple of ints from 0 below m -/
def isRows (m : Nat) : D → Bool
  | .tup l => upF ((m : Int) - 1) 0 l
  | _ => false
theorem upF_cons {hi lo : Int} {x : D} {l : List D} : upF hi lo (x :: l) = match x with | .int z => decide (lo ≤ z ∧ z ≤ hi) && upF hi (z + 1) l | _ => false := by
  cases x <;> rfl
theorem upF_no {hi lo : Int} {x : D} {l : List D} (h : isBet x lo hi = false) : upF hi lo (x :: l) = false := by
  rw [upF_cons]
  cases x with
  | int z =>
    have h : decide (lo ≤ z ∧ z ≤ hi) = false := h
    show (decide (lo ≤ z ∧ z ≤ hi) && _) = false
    rw [h]; rfl
  | _ => rfl
theorem upF_yes {hi lo : Int} {x : D} {l : List D} (h : isBet x lo hi = true) : ∃ z, x = .int z ∧ upF hi lo (x :: l) = upF hi (z + 1) l := by
  cases x with
  | int z =>
    have h : decide (lo ≤ z ∧ z ≤ hi) = true := h
    refine ⟨z, rfl, ?_⟩
    show (decide (lo ≤ z ∧ z ≤ hi) && _) = _
    rw [h]; rfl
  | _ => cases h
theorem upF_ints {hi : Int} : ∀ {l : List D} {lo : Int}, upF hi lo l = true → ∃ z : List Int, l = z.map .int
  | [], _, _ => ⟨[], rfl⟩
  | x :: l, lo, h => by
    rw [upF_cons] at h
    cases x with
    | int y =>
      have h : (decide (lo ≤ y ∧ y ≤ hi) && upF hi (y + 1) l) = true := h
      rw [Bool.and_eq_true] at h
      obtain ⟨z, rfl⟩ := upF_ints h.2
      exact ⟨y :: z, rfl⟩
    | _ => cases h
theorem upF_iff {hi : Int} : ∀ {z : List Int} {lo : Int}, upF hi lo (z.map .int) = true ↔ z.Pairwise (· < ·) ∧ ∀ x ∈ z, lo ≤ x ∧ x ≤ hi
  | [], _ => by simp [upF]
  | x :: z, lo => by
    show (decide (lo ≤ x ∧ x ≤ hi) && upF hi (x + 1) (z.map .int)) = true ↔ _
    rw [Bool.and_eq_true, decide_eq_true_eq, upF_iff, List.pairwise_cons]
    constructor
    · rintro ⟨h1, h2, h3⟩
      refine ⟨⟨fun y hy => by have := h3 y hy; omega, h2⟩, fun y hy => ?_⟩
      rcases List.mem_cons.1 hy with rfl | hy
      · exact h1
      · have := h3 y hy; omega
    · rintro ⟨⟨h1, h2⟩, h3⟩
      exact ⟨h3 x List.mem_cons_self, h2, fun y hy => ⟨by have := h1 y hy; omega, (h3 y (List.mem_cons_of_mem _ hy)).2⟩⟩
theorem isRows_iff {m : Nat} {z : List Int} : isRows m (.tup (z.map .int)) = true ↔ z.Pairwise (· < ·) ∧ ∀ x ∈ z, 0 ≤ x ∧ x < m := by
  show upF _ 0 _ = true ↔ _
  rw [upF_iff]
  exact ⟨fun h => ⟨h.1, fun x hx => by have := h.2 x hx; omega⟩, fun h => ⟨h.1, fun x hx => by have := h.2 x hx; omega⟩⟩
theorem w_is_row_set (h : Has P) {n m : Nat} {d : D} (hd : cl 1 d = true) (hk : K (.bl (isRows m d)) S) : callX P (n+2) "is_row_set" [.int m, d] S K E := by
  refine call_mt (σ := [some (.int m), some d, none, none]) h.h_is_row_set rfl rfl ?_
  cases d with
  | ref a => simp [cl] at hd
  | tpu a => simp [cl] at hd
  | tup l =>
    walk_at "e*"
    refine for_lst (fun a σ T => ∃ last u, σ = [some (.int m), some (.tup l), some (.int last), u] ∧ T = Ev.mt ∧ ∀ b, l = a ++ b → upF ((m : Int) - 1) 0 l = upF ((m : Int) - 1) (last + 1) b) ⟨-1, none, rfl, rfl, fun b e => by rw [e]; rfl⟩ (fun _ _ _ _ => trivial) ?_ ?_
    · rintro a x b σ T K2 e ⟨last, u, rfl, rfl, hi⟩ hK
      have hi' := hi _ e
      have hx : flD x = true := cl_fl (cl_tup hd x (by rw [e]; simp))
      walk_at "e*"
      refine w_is_integer h hx ?_
      have ec : ∀ y : D, isBet y (last + ((1 : Nat) : Int)) ((m : Int) - ((1 : Nat) : Int)) = isBet y (last + 1) ((m : Int) - 1) := fun _ => rfl
      rw [ec]
      walk_at "e*"
      refine if_nbool (fun h1 => ?_) (fun h1 => ?_)
      · walk_at "e*"
        have e0 : isRows m (.tup l) = false := by
          show upF _ 0 l = false
          rw [hi', upF_no h1]
        rw [e0] at hk
        exact hk
      · obtain ⟨z, rfl, e1⟩ := upF_yes (l := b) h1
        walk_at "e*"
        refine hK _ _ ⟨z, _, rfl, rfl, fun b' e' => ?_⟩
        have eb : b = b' := by
          rw [e, List.append_assoc] at e'
          exact (List.cons.inj (List.append_cancel_left e')).2
        subst eb
        rw [hi', e1]
    · rintro σ T ⟨last, u, rfl, rfl, hi⟩
      walk_at "e*"
      have e0 : isRows m (.tup l) = true := hi [] (List.append_nil _).symm
      rw [e0] at hk
      exact hk
  | _ =>
    walk_at "e*"
    exact hk
theorem sort_eq {z z' : List Int} (hp : z'.Perm z) (hs : z'.Pairwise (· ≤ ·)) : z = z' ↔ z.Pairwise (· ≤ ·) := by
  constructor
  · rintro rfl; exact hs
  · intro h
    exact (List.Perm.eq_of_pairwise (le := fun a b : Int => a ≤ b) (fun a b _ _ h1 h2 => Int.le_antisymm h1 h2) hs h hp).symm
theorem cnt_ints (n : Nat) (z : List Int) (x : Int) : (z.map D.int).countP (fun y => eqF (n + 1) y (.int x)) = z.count x := by
  rw [List.countP_map, List.count]
  refine List.countP_congr fun y _ => ?_
  show (y == x) = true ↔ (y == x) = true
  exact Iff.rfl
theorem strict_iff {z : List Int} (hs : z.Pairwise (· ≤ ·)) : (∀ x ∈ z, z.count x = 1) ↔ z.Pairwise (· < ·) := by
  constructor
  · intro h
    have nd : z.Nodup := List.nodup_iff_count.2 fun x => by
      by_cases hx : x ∈ z
      · rw [h x hx]; exact Nat.le_refl _
      · rw [List.count_eq_zero.2 hx]; exact Nat.zero_le _
    have := List.Pairwise.and hs nd
    exact this.imp fun {a b} h => by have h1 := h.1; have h2 : a ≠ b := h.2; omega
  · intro h x hx
    have nd : z.Nodup := h.imp fun {a b} h => by show a ≠ b; omega
    have h1 := List.nodup_iff_count.1 nd x
    have h2 := List.count_pos_iff.2 hx
    omega
theorem fin_map {α : Type} {f : α → Int} {l : List α} : (l.map fun x => D.int (f x)).all (fin 12) = true := List.all_eq_true.2 fun x hx => by
  obtain ⟨y, _, rfl⟩ := List.mem_map.1 hx
  rfl
theorem w_law_is_rows (h : Has P) {n m : Nat} {d : D} (hd : cl 1 d = true) (hl : ∀ l, d = .tup l → l.length ≤ 10000000) (hk : K (.bl (isRows m d)) S) : callX P (n+2) "_law_is_rows" [.int m, d] S K E := by
  refine call_mt (σ := [some (.int m), some d, none]) h.h_law_is_rows rfl rfl ?_
  cases d with
  | ref a => simp [cl] at hd
  | tpu a => simp [cl] at hd
  | tup l =>
    have hz : l.length ≤ line := by have := hl l rfl; show _ ≤ 16777216; omega
    walk_at "e*"
    refine lc_mI (fun x => .bl (isI x)) trivial hz (fun x hx Kt k => ?_) ?_
    · walk_at "e*"
      exact w_law_is_int h (cl_fl (cl_tup hd x hx)) k
    walk_at "f*"
    refine if_nbool (fun h1 => ?_) (fun h1 => ?_)
    · walk_at "e*"
      have e0 : isRows m (.tup l) = false := by
        cases e : isRows m (.tup l) with
        | false => rfl
        | true =>
          obtain ⟨z, rfl⟩ := upF_ints e
          have : ((z.map D.int).all isI) = true := List.all_eq_true.2 fun x hx => by
            obtain ⟨y, _, rfl⟩ := List.mem_map.1 hx
            rfl
          have h1 : ((z.map D.int).all isI) = false := h1
          rw [this] at h1; cases h1
      rw [e0] at hk
      exact hk
    have h1 : (l.all isI) = true := h1
    obtain ⟨z, rfl⟩ : ∃ z : List Int, l = z.map .int := by
      have go : ∀ l : List D, (l.all isI) = true → ∃ z : List Int, l = z.map .int := fun l => by
        induction l with
        | nil => exact fun _ => ⟨[], rfl⟩
        | cons x l ih =>
          intro h
          rw [List.all_cons, Bool.and_eq_true] at h
          obtain ⟨z, rfl⟩ := ih h.2
          cases x with
          | int y => exact ⟨y :: z, rfl⟩
          | _ => cases h.1
      exact go l h1
    walk_at "f*"
    refine bl_sorted (z := z) rfl (by rw [ints_map]; simp) fun z' hp hs => ?_
    walk_at "f*"
    have e1 : eqT (.fz (z.map D.int)) (.fz (z'.map D.int)) = decide (z = z') := eqF_ints 12 z z'
    refine c_eqD rfl rfl (fin_map (f := fun x => x)) (fin_map (f := fun x => x)) e1 ?_
    walk_at "e*"
    have hr : ∀ b : Bool, (b = true ↔ z.Pairwise (· < ·) ∧ ∀ x ∈ z, 0 ≤ x ∧ x < m) → isRows m (.tup (z.map .int)) = b := fun b hb => by
      rw [Bool.eq_iff_iff, isRows_iff, hb]
    refine if_dec (fun h2 => ?_) (fun h2 => ?_)
    · have hs2 := (sort_eq hp hs).1 h2
      walk_at "e*"
      refine lc_m (fun x : Int => .bl (decide (z.count x = 1 ∧ 0 ≤ x ∧ x < m))) (by simpa using hz) (fun x hx Kt k => ?_) ?_
      · walk_at "e*"
        refine mt_cntT rfl (fin_map (f := fun x => x)) ?_
        rw [cnt_ints]
        walk_at "e*"
        refine if_dec (fun h3 => ?_) (fun h3 => ?_)
        · walk_at "e*"
          refine if_dec (fun h4 => ?_) (fun h4 => ?_)
          · walk_at "e*"
            have e5 : decide (z.count x = 1 ∧ 0 ≤ x ∧ x < m) = decide (x < m) := decide_eq_decide.2 ⟨fun q => q.2.2, fun q => ⟨h3, h4, q⟩⟩
            rw [e5] at k
            exact k
          · walk_at "e*"
            have e5 : decide (z.count x = 1 ∧ 0 ≤ x ∧ x < m) = false := decide_eq_false fun q => h4 q.2.1
            rw [e5] at k
            exact k
        · walk_at "e*"
          have e5 : decide (z.count x = 1 ∧ 0 ≤ x ∧ x < m) = false := decide_eq_false fun q => h3 q.1
          rw [e5] at k
          rw [decide_eq_false h3]
          exact k
      walk_at "f*"
      rw [hr (z.all fun x => decide (z.count x = 1 ∧ 0 ≤ x ∧ x < m)) ?_] at hk
      · exact hk
      · rw [List.all_eq_true, ← strict_iff hs2]
        constructor
        · exact fun h => ⟨fun x hx => (of_decide_eq_true (h x hx)).1, fun x hx => (of_decide_eq_true (h x hx)).2⟩
        · exact fun h x hx => decide_eq_true ⟨h.1 x hx, h.2 x hx⟩
    · walk_at "e*"
      have e0 := hr false ⟨fun q => (nomatch q), fun q => absurd ((sort_eq hp hs).2 (q.1.imp fun {a b} h => Int.le_of_lt h)) h2⟩
      rw [e0] at hk
      rw [decide_eq_false h2]
      exact hk
  | _ =>
    walk_at "e*"
    exact hk
theorem cl_mk {n : Nat} {l : List D} (h : ∀ d ∈ l, cl n d = true) : cl (n + 1) (.tup l) = true := List.all_eq_true.2 h
theorem cl_all {l : List D} (h : ∀ d ∈ l, ∀ n, cl n d = true) : ∀ n, cl n (.tup l) = true
  | 0 => rfl
  | n + 1 => cl_mk fun d hd => h d hd n
theorem cl_int (z : Int) : ∀ n, cl n (.int z) = true := fun n => by cases n <;> rfl
theorem cl_ints (z : List Int) : ∀ n, cl n (.tup (z.map .int)) = true := cl_all fun d hd => by
  obtain ⟨y, _, rfl⟩ := List.mem_map.1 hd
  exact cl_int y
theorem cut_mem {α : Type} {l : List α} {lo hi : Option Int} {x : α} (h : x ∈ cut l lo hi) : x ∈ l := List.mem_of_mem_drop (List.mem_of_mem_take h)
theorem cut_le {α : Type} (l : List α) (lo hi : Option Int) : (cut l lo hi).length ≤ l.length := by
  unfold cut
  rw [List.length_take, List.length_drop]
  omega
theorem pow12 : ((10 : Nat) : Int) ^ ((12 : Nat) : Int).toNat = ((1000000000000 : Nat) : Int) := rfl

theorem w_law_within_bounds (h : Has P) {n : Nat} {d : D} {a b : Int} (hd : flD d = true) (hk : K (.bl (isBet d a b)) S) : callX P (n+2) "_law_within_bounds" [d, .int a, .int b] S K E := by
  refine call_mt (σ := [some d, some (.int a), some (.int b)]) h.h_law_within_bounds rfl rfl ?_
  walk_at "e*"
  refine w_law_is_int h hd ?_
  cases d with
  | ref a => cases hd
  | tpu a => cases hd
  | int z =>
    rw [show isI (.int z) = true from rfl]
    walk_at "e*"
    refine if_dec (fun h1 => ?_) (fun h1 => ?_)
    · walk_at "e*"
      have e : isBet (.int z) a b = decide (z ≤ b) := decide_eq_decide.2 ⟨fun q => q.2, fun q => ⟨h1, q⟩⟩
      rw [e] at hk
      exact hk
    · walk_at "e*"
      have e : isBet (.int z) a b = false := decide_eq_false fun q => h1 q.1
      rw [e] at hk
      exact hk
  | _ =>
    rw [show isI _ = false from rfl]
    walk_at "e*"
    exact hk
def soS : Option Str → Str
  | none => ""
  | some s => s
theorem w_law_reason (h : Has P) {n c : Nat} {r : D} (hc : c ≤ 64) (hr : cl 2 r = true) (hk : K (.str (soS (rowW c r))) S) : callX P (n+3) "_law_reason" [.int c, r] S K E := by
  refine call_mt (σ := [some (.int c), some r, none]) h.h_law_reason rfl rfl ?_
  cases r with
  | ref a => simp [cl] at hr
  | tpu a => simp [cl] at hr
  | tup l =>
    rcases l with _ | ⟨a, _ | ⟨b, _ | ⟨w, _ | ⟨x, _ | ⟨y, l⟩⟩⟩⟩⟩
    · walk_at "e*"
      exact hk
    · walk_at "e*"
      exact hk
    · walk_at "e*"
      exact hk
    · walk_at "e*"
      exact hk
    · have ha := cl_fl (cl_tup hr a (by simp))
      have hb := cl_fl (cl_tup hr b (by simp))
      have hw := cl_fl (cl_tup hr w (by simp))
      have hx := cl_tup hr x (by simp)
      have e0 : rowW c (.tup [a, b, w, x]) = if isBet a 0 7 = true then (if isBet b 0 9 = true then (if isBet w 1 1000 = true then celW c x else some weS) else some raS) else some haS := rfl
      rw [e0] at hk
      walk_at "e*"
      refine w_law_within_bounds h ha ?_
      walk_at "e*"
      refine if_nbool (fun h1 => ?_) (fun h1 => ?_)
      · rw [show isBet a 0 7 = false from h1, if_neg Bool.false_ne_true] at hk
        walk_at "e*"
        exact hk
      rw [show isBet a 0 7 = true from h1, if_pos rfl] at hk
      walk_at "e*"
      refine w_law_within_bounds h hb ?_
      walk_at "e*"
      refine if_nbool (fun h2 => ?_) (fun h2 => ?_)
      · rw [show isBet b 0 9 = false from h2, if_neg Bool.false_ne_true] at hk
        walk_at "e*"
        exact hk
      rw [show isBet b 0 9 = true from h2, if_pos rfl] at hk
      walk_at "e*"
      refine w_law_within_bounds h hw ?_
      walk_at "e*"
      refine if_nbool (fun h3 => ?_) (fun h3 => ?_)
      · rw [show isBet w 1 1000 = false from h3, if_neg Bool.false_ne_true] at hk
        walk_at "e*"
        exact hk
      rw [show isBet w 1 1000 = true from h3, if_pos rfl] at hk
      cases x with
      | ref a => simp [cl] at hx
      | tpu a => simp [cl] at hx
      | tup l =>
        have hin := cl_tup hx
        have e1 : celW c (.tup l) = if l.length = c ∧ (l.all fun x => isBet x 0 999) = true then none else some ceS := rfl
        rw [e1] at hk
        walk_at "e*"
        refine if_ndec (fun h4 => ?_) (fun h4 => ?_)
        · rw [if_neg (fun q => h4 q.1)] at hk
          walk_at "e*"
          exact hk
        walk_at "e*"
        refine lc_mI (fun x => .bl (isBet x 0 999)) trivial (by rw [h4]; show c ≤ 16777216; omega) (fun x hx Kt k => ?_) ?_
        · walk_at "e*"
          exact w_law_within_bounds h (cl_fl (hin x hx)) k
        walk_at "f*"
        refine if_nbool (fun h5 => ?_) (fun h5 => ?_)
        · rw [if_neg (fun q => by rw [q.2] at h5; cases h5)] at hk
          walk_at "e*"
          exact hk
        · rw [if_pos ⟨h4, h5⟩] at hk
          walk_at "e*"
          exact hk
      | _ =>
        walk_at "e*"
        exact hk
    · walk_at "e*"
      exact hk
  | _ =>
    walk_at "e*"
    exact hk
def duD : Option (D × D) → D
  | none => .tup []
  | some p => .tup [p.1, p.2]
theorem w_law_due (h : Has P) {n c : Nat} {d : D} (hc : c ≤ 64) (hd : cl 3 d = true) (hk : K (duD (tabF c d)) S) : callX P (n+4) "_law_due" [.int c, d] S K E := by
  refine call_mt (σ := [some (.int c), some d, none, none]) h.h_law_due rfl rfl ?_
  cases d with
  | ref a => simp [cl] at hd
  | tpu a => simp [cl] at hd
  | tup l =>
    walk_at "e*"
    refine if_dec (fun h3 => ?_) (fun h3 => ?_)
    · have e1 : tabF c (.tup l) = some (.non, .str rowS) := by
        show (if l.length ≤ 64 then _ else _) = _
        rw [if_neg (by omega)]
      rw [e1] at hk
      walk_at "e*"
      exact hk
    have e1 : tabF c (.tup l) = rowsF c 0 l := by
      show (if l.length ≤ 64 then _ else _) = _
      rw [if_pos (by omega)]
    rw [e1] at hk
    walk_at "e*"
    refine for_range (fun i σ T => ∃ u v, σ = [some (.int c), some (.tup l), u, v] ∧ T = Ev.mt ∧ rowsF c 0 l = rowsF c i (l.drop i)) ⟨none, none, rfl, rfl, rfl⟩ ?_ ?_
    · rintro i σ T K2 hi ⟨u, v, rfl, rfl, hx⟩ hK
      have hel : l.drop i = l[i] :: l.drop (i + 1) := List.drop_eq_getElem_cons hi
      have hcl : cl 2 l[i] = true := cl_tup hd _ (List.getElem_mem hi)
      have step : rowsF c 0 l = match rowW c l[i] with | some w => some (D.int (i : Nat), D.str w) | none => rowsF c (i + 1) (l.drop (i + 1)) := by
        rw [hx, hel]; rfl
      walk_at "e*"
      refine ix_tupN (d := l[i]) (by simp [hi]) ?_
      walk_at "e*"
      refine w_law_reason h hc hcl ?_
      cases hw : rowW c l[i] with
      | none =>
        rw [hw] at step
        rw [show soS none = "" from rfl]
        walk_at "w*"
        exact hK _ _ ⟨_, _, rfl, rfl, step⟩
      | some w =>
        rw [hw] at step
        rw [show soS (some w) = w from rfl]
        rw [step] at hk
        rcases rowW_ok hw with rfl | rfl | rfl | rfl | rfl <;> (walk_at "w*"; exact hk)
    · rintro σ T ⟨u, v, rfl, rfl, hx⟩
      walk_at "e*"
      rw [hx, List.drop_length] at hk
      exact hk
  | _ =>
    walk_at "e*"
    exact hk
theorem bk_sub {p : D × D} {cs : List Str} {b : Bool} (h : (cs.any fun c => subC (Str.ofString "BadTable") c) = b) : (cs.any fun c => subC (bks p).cls c) = b := h
theorem bks_row (p : D × D) : (bks p).fs.lookup (Str.ofString "row") = some p.1 := by
  show ([((Str.ofString "row"), p.1), ((Str.ofString "reason"), p.2)] : List (Str × D)).lookup _ = _
  simp [List.lookup]
theorem bks_reason (p : D × D) : (bks p).fs.lookup (Str.ofString "reason") = some p.2 := by
  have e : ((Str.ofString "reason") == (Str.ofString "row")) = false := by decide +kernel
  show ([((Str.ofString "row"), p.1), ((Str.ofString "reason"), p.2)] : List (Str × D)).lookup _ = _
  simp [List.lookup, e]
theorem hx_or {x : Xc} {σ : Loc} {S : Sto} {a b : Hx} {d e : Ev.D} {k : Bool} (h1 : hxD x σ S a = some d) (t : truth? S d = some k) (h2 : (if k = true then some d else hxD x σ S b) = some e) : hxD x σ S (.or a b) = some e := by
  show ((hxD x σ S a).bind fun d => (truth? S d).bind fun k => if k = true then some d else hxD x σ S b) = _
  rw [h1, Option.bind_some, t, Option.bind_some]
  exact h2
theorem w_law_told (h : Has P) {n c : Nat} {d : D} (hc : c ≤ 64) (hd : cl 3 d = true) (hk : K (duD (tabF c d)) S) : callX P (n+5) "_law_told" [.int c, d] S K E := by
  refine call_mt (σ := [some (.int c), some d, none]) h.h_law_told rfl rfl ?_
  walk_at "e*"
  refine w_check_table h hc hd (fun hn => ?_) (fun p hp => ?_)
  · rw [hn] at hk
    walk_at "e*"
    exact hk
  · rw [hp] at hk
    refine ⟨List.mem_singleton.2 rfl, as_hit (show subC (Str.ofString "BadTable") (Str.ofString "TruceError") = true by decide +kernel) ?_⟩
    refine hs_skip (.bl false) (hx_or (hx_not (hx_isx (b := true) (bk_sub (by decide +kernel))) rfl) (k := false) rfl (by rw [if_neg Bool.false_ne_true]; exact hx_not (hx_isx (b := true) (bk_sub (by decide +kernel))) rfl)) rfl ?_
    refine hs_skip (.bl false) (hx_isx (bk_sub (by decide +kernel))) rfl ?_
    refine hs_skip (.bl false) (hx_isx (bk_sub (by decide +kernel))) rfl ?_
    exact hs_ret _ (hx_tup2 (hx_att (bks_row p)) (hx_att (bks_reason p))) (bk_mt hk)
def okP (p : D × D) : Prop := (p.1 = .non ∨ ∃ k : Nat, p.1 = .int k) ∧ ∃ w : Str, p.2 = .str w ∧ strok w = true
theorem rowsF_ok {c : Nat} : ∀ {l : List D} {k : Nat} {p : D × D}, rowsF c k l = some p → okP p
  | [], _, _, h => by cases h
  | r :: l, k, p, h => by
    have h : (match rowW c r with | some w => some (D.int (k : Nat), D.str w) | none => rowsF c (k + 1) l) = some p := h
    cases e : rowW c r with
    | none => rw [e] at h; exact rowsF_ok h
    | some w =>
      rw [e] at h
      cases h
      refine ⟨.inr ⟨k, rfl⟩, w, rfl, ?_⟩
      rcases rowW_ok e with rfl | rfl | rfl | rfl | rfl <;> decide +kernel
theorem tabF_ok {c : Nat} {d : D} {p : D × D} (h : tabF c d = some p) : okP p := by
  have one : ∀ w : Str, strok w = true → okP (.non, .str w) := fun w hw => ⟨.inl rfl, w, rfl, hw⟩
  unfold tabF at h
  split at h
  · split at h
    · exact rowsF_ok h
    · cases h; exact one _ (by decide +kernel)
  · cases h; exact one _ (by decide +kernel)
theorem du_pl (c : Nat) (d : D) : plD 12 (duD (tabF c d)) = true ∧ szD (duD (tabF c d)) ≤ 19999 ∧ flat? S (duD (tabF c d)) = some (duD (tabF c d)) ∧ finT (duD (tabF c d)) = true ∧ eqT (duD (tabF c d)) (duD (tabF c d)) = true ∧ eqT (duD (tabF c d)) (.tup []) = (tabF c d).isNone := by
  cases e : tabF c d with
  | none => exact ⟨rfl, Nat.le_of_ble_eq_true rfl, rfl, rfl, rfl, rfl⟩
  | some p =>
    obtain ⟨a, b⟩ := p
    obtain ⟨h1, w, rfl, hw⟩ := tabF_ok e
    have h1 : a = .non ∨ ∃ k : Nat, a = .int k := h1
    have hw' : plD 11 (.str w) = true := hw
    have e2 : eqF 11 (.str w) (.str w) = true := by simp [eqF]
    have hf : fin 11 (.str w) = true := hw
    rcases h1 with rfl | ⟨k, rfl⟩
    · refine ⟨?_, Nat.le_of_ble_eq_true rfl, rfl, ?_, ?_, rfl⟩
      · show ([D.non, D.str w] : List D).all (plD 11) = true
        rw [List.all_cons, List.all_cons, hw']; rfl
      · show ([D.non, D.str w] : List D).all (fin 11) = true
        rw [List.all_cons, List.all_cons, hf]; rfl
      · show (eqF 11 D.non D.non && (eqF 11 (.str w) (.str w) && true)) = true
        rw [e2]; rfl
    · have e3 : eqF 11 (.int (k : Nat)) (.int k) = true := by simp [eqF]
      refine ⟨?_, Nat.le_of_ble_eq_true rfl, rfl, ?_, ?_, rfl⟩
      · show ([D.int (k : Nat), D.str w] : List D).all (plD 11) = true
        rw [List.all_cons, List.all_cons, hw']; rfl
      · show ([D.int (k : Nat), D.str w] : List D).all (fin 11) = true
        rw [List.all_cons, List.all_cons, hf]; rfl
      · show (eqF 11 (.int (k : Nat)) (.int k) && (eqF 11 (.str w) (.str w) && true)) = true
        rw [e2, e3]; rfl
theorem w_law_end (h : Has P) {n d b lo hi : Nat} (hD : Dr d b S) (hl : lo ≤ hi) (hh : hi < 2 ^ 20) (hb : b < 2 ^ 59) (hk : ∀ (r : Nat) S', lo ≤ r → r ≤ hi → Dr d (b + 2) S' → K (.int r) S') : callX P (n+3) "_law_end" [.ref d, .int lo, .int hi] S K E := by
  refine call_of (σ := [some (.ref d), some (.int lo), some (.int hi)]) h.h_law_end rfl rfl ?_
  walk_at "e*"
  refine w_draw h hD (by omega) (by omega) (by omega) fun r S1 hr D1 => ?_
  walk_at "f*"
  refine w_law_pick h D1 (.inl rfl) (Nat.le_of_ble_eq_true rfl) (Nat.lt_of_lt_of_le (show 3 < 4 by decide) (by decide)) (by omega) fun y hy S2 D2 => ?_
  refine fr_no (bk_self ?_)
  simp only [List.mem_cons, List.not_mem_nil, or_false] at hy
  rcases hy with rfl | rfl | rfl
  · exact hk lo S2 (Nat.le_refl _) hl D2
  · exact hk hi S2 hl (Nat.le_refl _) D2
  · exact hk (lo + r) S2 (by omega) (by omega) D2
/-- a row of ints -/
def GR (c : Nat) (x : D) : Prop := ∃ (a b w : Int) (cs : List Int), x = .tup [.int a, .int b, .int w, .tup (cs.map .int)] ∧ cs.length = c
theorem GR.clo {c : Nat} {x : D} (g : GR c x) : ∀ n, cl n x = true := by
  obtain ⟨a, b, w, cs, rfl, _⟩ := g
  refine cl_all fun d hd => ?_
  simp only [List.mem_cons, List.not_mem_nil, or_false] at hd
  rcases hd with rfl | rfl | rfl | rfl
  · exact cl_int _
  · exact cl_int _
  · exact cl_int _
  · exact cl_ints _
theorem w_law_good_row (h : Has P) {n d b c : Nat} (hD : Dr d b S) (hc : c ≤ 64) (hb : b < 2 ^ 58) (hk : ∀ x S', GR c x → Dr d (b + 200) S' → K x S') : callX P (n+4) "_law_good_row" [.ref d, .int c] S K E := by
  refine call_of (σ := [some (.ref d), some (.int c), none, none]) h.h_law_good_row rfl rfl ?_
  walk_at "e*"
  refine lc_invC (f := fun k : Nat => D.int k) (l := List.range c) (fun a o T => ∃ cs : List Int, o = cs.map .int ∧ cs.length = a.length ∧ Dr d (b + 2 * a.length) T) (by rw [List.length_range]; show c ≤ 16777216; omega) ⟨[], rfl, rfl, hD⟩ (fun _ _ _ _ => trivial) (fun a o T hI => ?_) (fun a x b' o T Kt e hI k1 k2 => ?_) fun o T hI => ?_
  · obtain ⟨cs, rfl, hl, _⟩ := hI
    rw [List.length_map, hl]
    exact Nat.le_refl _
  · obtain ⟨cs, rfl, hl, D1⟩ := hI
    have hal : a.length < c := by
      have := congrArg List.length e
      simp only [List.length_range, List.length_append, List.length_cons] at this
      omega
    walk_at "e*"
    refine w_law_end h (lo := 0) (hi := 999) D1 (by omega) (by omega) (by omega) fun r S1 _ hr D2 => ?_
    refine k1 _ _ ⟨cs ++ [(r : Int)], by rw [List.map_append]; rfl, by simp [hl], D2.mono (by simp; omega)⟩
  · obtain ⟨cs, rfl, hl, D1⟩ := hI
    rw [List.length_range] at hl D1
    walk_at "f*"
    refine w_law_end h (lo := 0) (hi := 7) D1 (by omega) (by omega) (by omega) fun r1 S1 _ _ D2 => ?_
    walk_at "e*"
    refine w_law_end h (lo := 0) (hi := 9) D2 (by omega) (by omega) (by omega) fun r2 S2 _ _ D3 => ?_
    walk_at "e*"
    refine w_law_end h (lo := 1) (hi := 1000) D3 (by omega) (by omega) (by omega) fun r3 S3 _ _ D4 => ?_
    walk_at "e*"
    exact bk_self (hk _ S3 ⟨r1, r2, r3, cs, rfl, hl⟩ (D4.mono (by omega)))
theorem w_law_odd (h : Has P) {n d b lo hi : Nat} (hD : Dr d b S) (hl : lo ≤ hi) (hh : hi < 2 ^ 20) (hb : b < 2 ^ 58) (hk : ∀ x S', (∀ n, cl n x = true) → Dr d (b + 3) S' → K x S') : callX P (n+3) "_law_odd" [.ref d, .int lo, .int hi] S K E := by
  refine call_of (σ := [some (.ref d), some (.int lo), some (.int hi), none, none]) h.h_law_odd rfl rfl ?_
  walk_at "e*"
  refine w_draw h hD (by omega) (by omega) (by omega) fun r S1 hr D1 => ?_
  walk_at "e*"
  refine b_pow ?_ (by decide)
  rw [pow12]
  walk_at "e*"
  refine w_draw h D1 (by decide) (by decide) (by omega) fun r2 S2 hr2 D2 => ?_
  walk_at "e*"
  refine bl_str ?_ (by
    have := log_lt (x := lo + r) (k := 64) (by omega)
    rw [Int.natAbs_natCast]
    omega)
  walk_at "f*"
  refine w_law_pick h D2 (.inl rfl) (Nat.le_of_ble_eq_true rfl) (Nat.lt_of_lt_of_le (show 12 < 13 by decide) (by decide)) (by omega) fun y hy S3 D3 => ?_
  refine fr_no (bk_self (hk y S3 ?_ D3))
  simp only [List.mem_cons, List.not_mem_nil, or_false] at hy
  rcases hy with rfl | rfl | rfl | rfl | rfl | rfl | rfl | rfl | rfl | rfl | rfl | rfl <;> (intro n; rcases n with _ | _ | _ | n <;> rfl)
theorem w_law_odd_cells (h : Has P) {n d b c : Nat} {cs : List Int} (hD : Dr d b S) (h1 : 1 ≤ c) (hc : c ≤ 64) (hl : cs.length = c) (hb : b < 2 ^ 57) (hk : ∀ x S', (∀ n, cl n x = true) → Dr d (b + 5) S' → K x S') : callX P (n+4) "_law_odd_cells" [.ref d, .int c, .tup (cs.map .int)] S K E := by
  refine call_of (σ := [some (.ref d), some (.int c), some (.tup (cs.map .int)), none, none]) h.h_law_odd_cells rfl rfl ?_
  walk_at "e*"
  refine w_draw h hD (by omega) (by omega) (by omega) fun r S1 hr D1 => ?_
  walk_at "e*"
  refine w_law_odd h (lo := 0) (hi := 999) D1 (by omega) (by omega) (by omega) fun z S2 hz D2 => ?_
  walk_at "e*"
  have hcs := cl_ints cs
  have hin : ∀ (lo hi : Option Int), ∀ x ∈ cut (cs.map D.int) lo hi, ∀ n, cl n x = true := fun lo hi x hx => by
    obtain ⟨y, _, rfl⟩ := List.mem_map.1 (cut_mem hx)
    exact cl_int y
  have hle : ∀ (lo hi : Option Int), (cut (cs.map D.int) lo hi).length ≤ 64 := fun lo hi => by
    have := cut_le (cs.map D.int) lo hi
    rw [List.length_map] at this
    omega
  refine b_addT ?_ (by
    have := hle none (some (r : Int))
    simp only [List.length_cons, List.length_nil]
    show _ ≤ 16777216
    omega)
  walk_at "e*"
  refine b_addT ?_ (by
    have := hle none (some (r : Int))
    have := hle (some ((r + 1 : Nat) : Int)) none
    rw [List.length_append]
    simp only [List.length_cons, List.length_nil]
    show _ ≤ 16777216
    omega)
  walk_at "f*"
  refine b_addT ?_ (by
    have := hle none (some ((1 : Nat) : Int))
    rw [List.length_map]
    show _ ≤ 16777216
    omega)
  walk_at "f*"
  have hch : ∀ n, cl n (.tup (cut (cs.map D.int) none (some (r : Int)) ++ [z] ++ cut (cs.map D.int) (some ((r + 1 : Nat) : Int)) none)) = true := cl_all fun x hx => by
    rcases List.mem_append.1 hx with hx | hx
    · rcases List.mem_append.1 hx with hx | hx
      · exact hin _ _ x hx
      · rw [List.mem_singleton] at hx; rw [hx]; exact hz
    · exact hin _ _ x hx
  refine w_law_pick h D2 (.inl rfl) (Nat.le_of_ble_eq_true rfl) (Nat.lt_of_lt_of_le (show 9 < 10 by decide) (by decide)) (by omega) fun y hy S3 D3 => ?_
  refine fr_no (bk_self (hk y S3 ?_ (D3.mono (by omega))))
  simp only [List.mem_cons, List.not_mem_nil, or_false] at hy
  rcases hy with rfl | rfl | rfl | rfl | rfl | rfl | rfl | rfl | rfl
  · exact hch
  · exact hch
  · exact hch
  · intro n; cases n <;> rfl
  · exact cl_all (hin _ _)
  · exact cl_all fun x hx => (List.mem_append.1 hx).elim (fun hx => by
      obtain ⟨y, _, rfl⟩ := List.mem_map.1 hx
      exact cl_int y) (hin _ _ x)
  · intro n; cases n <;> rfl
  · exact cl_int _
  · exact cl_all fun x hx => by rw [List.mem_singleton] at hx; rw [hx]; exact hcs
theorem w_law_odd_row (h : Has P) {n d b c : Nat} {x : D} (hD : Dr d b S) (h1 : 1 ≤ c) (hc : c ≤ 64) (g : GR c x) (hb : b < 2 ^ 56) (hk : ∀ y S', (∀ n, cl n y = true) → Dr d (b + 20) S' → K y S') : callX P (n+5) "_law_odd_row" [.ref d, .int c, x] S K E := by
  obtain ⟨za, zb, zw, cs, rfl, hl⟩ := g
  refine call_of (σ := [some (.ref d), some (.int c), some (.tup [.int za, .int zb, .int zw, .tup (cs.map .int)]), none, none, none, none]) h.h_law_odd_row rfl rfl ?_
  have hR : ∀ n, cl n (.tup [.int za, .int zb, .int zw, .tup (cs.map .int)]) = true := GR.clo ⟨za, zb, zw, cs, rfl, hl⟩
  walk_at "e*"
  refine w_draw h hD (by decide) (by decide) (by omega) fun way S1 hway D1 => ?_
  walk_at "e*"
  refine if_dec (fun hw => ?_) (fun hw => ?_)
  · walk_at "f*"
    refine w_law_pick h D1 (.inl rfl) (Nat.le_of_ble_eq_true rfl) (Nat.lt_of_lt_of_le (show 8 < 9 by decide) (by decide)) (by omega) fun y hy S3 D3 => ?_
    refine fr_no (bk_self (hk y S3 ?_ (D3.mono (by omega))))
    have hin : ∀ q ∈ ([.int za, .int zb, .int zw, .tup (cs.map .int)] : List D), ∀ n, cl n q = true := fun q hq n => cl_tup (hR (n + 1)) q hq
    simp only [List.mem_cons, List.not_mem_nil, or_false] at hy
    rcases hy with rfl | rfl | rfl | rfl | rfl | rfl | rfl | rfl
    · intro n; cases n <;> rfl
    · intro n; cases n <;> rfl
    · exact cl_all fun q hq => hin q (cut_mem hq)
    · exact cl_all fun q hq => (List.mem_append.1 hq).elim (hin q) fun hq => by rw [List.mem_singleton] at hq; rw [hq]; exact cl_int _
    · intro n; cases n <;> rfl
    · exact cl_int _
    · intro n; cases n <;> rfl
    · exact cl_all fun q hq => by rw [List.mem_singleton] at hq; rw [hq]; exact hR
  walk_at "e*"
  refine nl_ref fun p hp => ?_
  have hpd := D1.ne hp
  walk_at "e*"
  obtain ⟨tn, htn, et⟩ : ∃ tn : Nat, tn ≤ 2 ∧ ((1 : Nat) : Int) + b2 (decide (way < 4)) = tn := by cases decide (way < 4) <;> first | exact ⟨1, by decide, rfl⟩ | exact ⟨2, by decide, rfl⟩
  rw [et]
  walk_at "e*"
  refine for_range (fun i σ T => ∃ u v, ∃ (l : List D) (S2 : Sto), σ = [some (.ref d), some (.int c), some (.tup [.int za, .int zb, .int zw, .tup (cs.map .int)]), some (.int way), some (.ref p), u, v] ∧ T = put S2 p (.lst l) ∧ l.length = 4 ∧ (∀ x ∈ l, ∀ n, cl n x = true) ∧ Dr d (b + 1 + 8 * i) S2)
    ⟨none, none, _, S1, rfl, rfl, rfl, fun q hq n => cl_tup (hR (n + 1)) q hq, D1⟩ ?_ ?_
  · rintro i σ T K2 hi ⟨u, v, l, S2, rfl, rfl, hll, hcl, D2⟩ hK
    have hi2 : i < 2 := by omega
    walk_at "e*"
    refine call_fr (D2.non hpd) (w_draw h D2 (by decide) (by decide) (by omega) fun pl S3 hpl D3 => ?_)
    have step : ∀ (z : D) (S4 : Sto), (∀ n, cl n z = true) → Dr d (b + 1 + 8 * i + 8) S4 → ∀ σ', (∃ u v, σ' = [some (.ref d), some (.int c), some (.tup [.int za, .int zb, .int zw, .tup (cs.map .int)]), some (.int way), some (.ref p), u, v]) → K2 σ' (put S4 p (.lst (l.set pl z))) := fun z S4 hz D4 σ' ⟨u, v, e⟩ =>
      hK _ _ ⟨u, v, l.set pl z, S4, e, rfl, by rw [List.length_set, hll], fun q hq => (List.mem_or_eq_of_mem_set hq).elim (hcl q) (fun e => by rw [e]; exact hz), D4.mono (by omega)⟩
    have hplt : pl < l.length := by omega
    walk_at "e*"
    refine if_dec (fun h3 => ?_) (fun h3 => ?_)
    · subst h3
      walk_at "e*"
      refine call_fr (D3.non hpd) (w_law_odd_cells h D3 h1 hc hl (by omega) fun z S4 hz D4 => ?_)
      walk_at "e*"
      refine su_lst (j := 3) put_eq (by rw [hll]; rfl) ?_
      walk_at "e*"
      rw [put_put]
      exact step z S4 hz (D4.mono (by omega)) _ ⟨_, _, rfl⟩
    · have h3' : pl = 0 ∨ pl = 1 ∨ pl = 2 := by omega
      rcases h3' with rfl | rfl | rfl
      · walk_at "f*"
        refine call_fr (D3.non hpd) (w_law_odd h (lo := 0) (hi := 7) D3 (by omega) (by omega) (by omega) fun z S4 hz D4 => ?_)
        walk_at "e*"
        refine su_lstN put_eq hplt ?_
        walk_at "e*"
        rw [put_put]
        exact step z S4 hz (D4.mono (by omega)) _ ⟨_, _, rfl⟩
      · walk_at "f*"
        refine call_fr (D3.non hpd) (w_law_odd h (lo := 0) (hi := 9) D3 (by omega) (by omega) (by omega) fun z S4 hz D4 => ?_)
        walk_at "e*"
        refine su_lstN put_eq hplt ?_
        walk_at "e*"
        rw [put_put]
        exact step z S4 hz (D4.mono (by omega)) _ ⟨_, _, rfl⟩
      · walk_at "f*"
        refine call_fr (D3.non hpd) (w_law_odd h (lo := 1) (hi := 1000) D3 (by omega) (by omega) (by omega) fun z S4 hz D4 => ?_)
        walk_at "e*"
        refine su_lstN put_eq hplt ?_
        walk_at "e*"
        rw [put_put]
        exact step z S4 hz (D4.mono (by omega)) _ ⟨_, _, rfl⟩
  · rintro σ T ⟨u, v, l, S2, rfl, rfl, hll, hcl, D2⟩
    walk_at "e*"
    exact bk_of (sub_new (D2.non hpd)) (hk _ S2 (cl_all hcl) (D2.mono (by omega)))
theorem GR.fin {c : Nat} {x : D} (g : GR c x) (n : Nat) : Ev.fin (n + 2) x = true := by
  obtain ⟨a, b, w, cs, rfl, _⟩ := g
  have e : (cs.map D.int).all (Ev.fin n) = true := List.all_eq_true.2 fun y hy => by
    obtain ⟨z, _, rfl⟩ := List.mem_map.1 hy
    cases n <;> rfl
  have e2 : ∀ z : Int, Ev.fin (n + 1) (.int z) = true := fun z => rfl
  have e3 : Ev.fin (n + 1) (.tup (cs.map D.int)) = true := e
  show ([D.int a, D.int b, D.int w, .tup (cs.map .int)] : List D).all (Ev.fin (n + 1)) = true
  simp only [List.all_cons, List.all_nil, e2, e3, Bool.and_self]
/-- any thing of a bounded length -/
def Tg (c : Nat) (x : Nat × D) : Prop := x.1 ≤ 64 ∧ cl 3 x.2 = true
theorem w_law_odd_table (h : Has P) {n d b c : Nat} {rs : List D} (hD : Dr d b S) (h1 : 1 ≤ c) (hc : c ≤ 64) (g : ∀ x ∈ rs, GR c x) (hl : rs.length ≤ 64) (hb : b < 2 ^ 55) (hk : ∀ y S', (∀ n, cl n y = true) → Dr d (b + 300) S' → K y S') : callX P (n+6) "_law_odd_table" [.ref d, .int c, .tup rs] S K E := by
  refine call_of (σ := [some (.ref d), some (.int c), some (.tup rs), none, none, none, none]) h.h_law_odd_table rfl rfl ?_
  have hin : ∀ q ∈ rs, ∀ n, cl n q = true := fun q hq => (g q hq).clo
  have hR : ∀ n, cl n (.tup rs) = true := cl_all hin
  walk_at "e*"
  refine w_draw h hD (by decide) (by decide) (by omega) fun way S1 hway D1 => ?_
  walk_at "e*"
  refine if_dec (fun hw => ?_) (fun hw => ?_)
  · walk_at "f*"
    refine b_addT ?_ (by simp only [List.length_cons, List.length_nil]; show _ ≤ 16777216; omega)
    walk_at "f*"
    refine w_law_pick h D1 (.inl rfl) (Nat.le_of_ble_eq_true rfl) (Nat.lt_of_lt_of_le (show 6 < 7 by decide) (by decide)) (by omega) fun y hy S3 D3 => ?_
    refine fr_no (bk_self (hk y S3 ?_ (D3.mono (by omega))))
    simp only [List.mem_cons, List.not_mem_nil, or_false] at hy
    rcases hy with rfl | rfl | rfl | rfl | rfl | rfl
    · intro n; cases n <;> rfl
    · intro n; cases n <;> rfl
    · intro n; cases n <;> rfl
    · exact cl_int _
    · exact cl_all fun q hq => (List.mem_append.1 hq).elim (hin q) fun hq => by rw [List.mem_singleton] at hq; rw [hq]; intro n; cases n <;> rfl
    · exact cl_all fun q hq => by rw [List.mem_singleton] at hq; rw [hq]; exact hR
  walk_at "e*"
  refine if_dec (fun hw1 => ?_) (fun hw1 => ?_)
  · walk_at "e*"
    refine if_dec (fun _ => ?_) (fun q => absurd hw1 q)
    walk_at "e*"
    refine w_law_good_row h D1 hc (by omega) fun x S2 gx D2 => ?_
    walk_at "e*"
    refine w_law_odd_row h D2 h1 hc gx (by omega) fun y S3 hy D3 => ?_
    walk_at "e*"
    refine b_addT ?_ (by simp only [List.length_cons, List.length_nil]; show _ ≤ 16777216; omega)
    walk_at "e*"
    refine bk_self (hk _ S3 (cl_all fun q hq => (List.mem_append.1 hq).elim (hin q) fun hq => by rw [List.mem_singleton] at hq; rw [hq]; exact hy) (D3.mono (by omega)))
  walk_at "e*"
  refine c_eqD (c := rs.isEmpty) rfl rfl (List.all_eq_true.2 fun q hq => (g q hq).fin 9) rfl (by cases rs <;> rfl) ?_
  cases e : rs.isEmpty with
  | true =>
    walk_at "e*"
    refine w_law_good_row h D1 hc (by omega) fun x S2 gx D2 => ?_
    walk_at "e*"
    refine w_law_odd_row h D2 h1 hc gx (by omega) fun y S3 hy D3 => ?_
    walk_at "e*"
    refine b_addT ?_ (by simp only [List.length_cons, List.length_nil]; show _ ≤ 16777216; omega)
    walk_at "e*"
    refine bk_self (hk _ S3 (cl_all fun q hq => (List.mem_append.1 hq).elim (hin q) fun hq => by rw [List.mem_singleton] at hq; rw [hq]; exact hy) (D3.mono (by omega)))
  | false =>
    have h0 : 0 < rs.length := by
      cases rs with
      | nil => cases e
      | cons _ _ => exact Nat.zero_lt_succ _
    walk_at "e*"
    refine nl_ref fun p hp => ?_
    have hpd := D1.ne hp
    walk_at "e*"
    obtain ⟨tn, htn, et⟩ : ∃ tn : Nat, tn ≤ 2 ∧ ((1 : Nat) : Int) + b2 (decide (way < 5)) = tn := by cases decide (way < 5) <;> first | exact ⟨1, by decide, rfl⟩ | exact ⟨2, by decide, rfl⟩
    rw [et]
    walk_at "e*"
    refine for_range (fun i σ T => ∃ u v, ∃ (l : List D) (S2 : Sto), σ = [some (.ref d), some (.int c), some (.tup rs), some (.int way), some (.ref p), u, v] ∧ T = put S2 p (.lst l) ∧ l.length = rs.length ∧ (∀ x ∈ l, ∀ n, cl n x = true) ∧ Dr d (b + 1 + 30 * i) S2)
      ⟨none, none, _, S1, rfl, rfl, rfl, hin, D1⟩ ?_ ?_
    · rintro i σ T K2 hi ⟨u, v, l, S2, rfl, rfl, hll, hcl, D2⟩ hK
      have hi2 : i < 2 := by omega
      walk_at "e*"
      refine call_fr (D2.non hpd) (w_draw h D2 (by omega) (by omega) (by omega) fun pl S3 hpl D3 => ?_)
      have hpr : pl < rs.length := by omega
      walk_at "e*"
      refine ix_tupN (d := rs[pl]) (by simp [hpr]) ?_
      walk_at "e*"
      refine call_fr (D3.non hpd) (w_law_odd_row h D3 h1 hc (g _ (List.getElem_mem hpr)) (by omega) fun y S4 hy D4 => ?_)
      walk_at "e*"
      refine su_lstN put_eq (by omega) ?_
      walk_at "e*"
      rw [put_put]
      exact hK _ _ ⟨_, _, l.set pl y, S4, rfl, rfl, by rw [List.length_set, hll], fun q hq => (List.mem_or_eq_of_mem_set hq).elim (hcl q) (fun e => by rw [e]; exact hy), D4.mono (by omega)⟩
    · rintro σ T ⟨u, v, l, S2, rfl, rfl, hll, hcl, D2⟩
      walk_at "e*"
      exact bk_of (sub_new (D2.non hpd)) (hk _ S2 (cl_all hcl) (D2.mono (by omega)))
theorem w_law_twins (h : Has P) {n d b c : Nat} (hD : Dr d b S) (h1 : 1 ≤ c) (hc : c ≤ 64) (hb : b < 2 ^ 58) (hk : ∀ (L : List D) S', L.length = 4 → (∀ y ∈ L, ∀ n, cl n y = true) → Dr d (b + 1) S' → K (.fz L) S') : callX P (n+3) "_law_twins" [.ref d, .int c] S K E := by
  refine call_of (σ := [some (.ref d), some (.int c), none, none, none]) h.h_law_twins rfl rfl ?_
  have rep : ∀ (k : Int) (q : D), q ∈ (List.replicate k.toNat [D.int ((1 : Nat) : Int)]).flatten → ∀ n, cl n q = true := fun k q hq => by
    obtain ⟨u, hu, hq⟩ := List.mem_flatten.1 hq
    rw [List.eq_of_mem_replicate hu, List.mem_singleton] at hq
    rw [hq]
    exact cl_int _
  have repl : ∀ k : Int, k ≤ 64 → (List.replicate k.toNat [D.int ((1 : Nat) : Int)]).flatten.length ≤ 64 := fun k hk => by
    simp
    omega
  walk_at "e*"
  refine b_mulT (by simp; omega) ?_
  walk_at "e*"
  refine nl_fz ?_
  walk_at "e*"
  refine nl_ref fun p hp => ?_
  have hpd := hD.ne hp
  walk_at "e*"
  refine call_fr (hD.non hpd) (w_draw h hD (by decide) (by decide) (by omega) fun pl S1 hpl D1 => ?_)
  have o4 : ∀ q ∈ ([.int ((1 : Nat) : Int), .int ((1 : Nat) : Int), .int ((1 : Nat) : Int), .tup (List.replicate (c : Int).toNat [D.int ((1 : Nat) : Int)]).flatten] : List D), ∀ n, cl n q = true := fun q hq => by
    simp only [List.mem_cons, List.not_mem_nil, or_false] at hq
    rcases hq with rfl | rfl | rfl | rfl
    · exact cl_int _
    · exact cl_int _
    · exact cl_int _
    · exact cl_all (rep _)
  have last : ∀ (z : D), (∀ n, cl n z = true) → ∀ L, (L = [.tup [.tup [.int ((1 : Nat) : Int), .int ((1 : Nat) : Int), .int ((1 : Nat) : Int), .tup (List.replicate (c : Int).toNat [D.int ((1 : Nat) : Int)]).flatten]],
      .tup [.tup ([.int ((1 : Nat) : Int), .int ((1 : Nat) : Int), .int ((1 : Nat) : Int), .tup (List.replicate (c : Int).toNat [D.int ((1 : Nat) : Int)]).flatten].set pl z)],
      .tup [.tup [.int ((1 : Nat) : Int), .int ((1 : Nat) : Int), .int ((1 : Nat) : Int), .tup (List.replicate (c : Int).toNat [D.int ((1 : Nat) : Int)]).flatten], .tup ([.int ((1 : Nat) : Int), .int ((1 : Nat) : Int), .int ((1 : Nat) : Int), .tup (List.replicate (c : Int).toNat [D.int ((1 : Nat) : Int)]).flatten].set pl z)],
      .tup [.tup [.int ((1 : Nat) : Int), .int ((1 : Nat) : Int), .int ((1 : Nat) : Int), .tup (List.replicate (c : Int).toNat [D.int ((1 : Nat) : Int)]).flatten]]]) → ∀ y ∈ L, ∀ n, cl n y = true := fun z hz L eL y hy => by
    have c1 := cl_all o4
    have c2 : ∀ n, cl n (.tup ([.int ((1 : Nat) : Int), .int ((1 : Nat) : Int), .int ((1 : Nat) : Int), .tup (List.replicate (c : Int).toNat [D.int ((1 : Nat) : Int)]).flatten].set pl z)) = true :=
      cl_all fun q hq => (List.mem_or_eq_of_mem_set hq).elim (o4 q) (fun e => by rw [e]; exact hz)
    subst eL
    simp only [List.mem_cons, List.not_mem_nil, or_false] at hy
    rcases hy with rfl | rfl | rfl | rfl
    · exact cl_all fun q hq => by rw [List.mem_singleton] at hq; rw [hq]; exact c1
    · exact cl_all fun q hq => by rw [List.mem_singleton] at hq; rw [hq]; exact c2
    · refine cl_all fun q hq => ?_
      simp only [List.mem_cons, List.not_mem_nil, or_false] at hq
      rcases hq with rfl | rfl
      · exact c1
      · exact c2
    · exact cl_all fun q hq => by rw [List.mem_singleton] at hq; rw [hq]; exact c1
  walk_at "e*"
  refine if_dec (fun h3 => ?_) (fun h3 => ?_)
  · walk_at "e*"
    refine su_lstN put_eq (by simp; omega) ?_
    rw [put_put]
    walk_at "f*"
    exact bk_of (sub_new (D1.non hpd)) (hk _ S1 rfl (last _ (fun n => by cases n <;> rfl) _ rfl) D1)
  · walk_at "e*"
    refine b_mulT (by simp; omega) ?_
    walk_at "e*"
    refine b_addT ?_ (by
      have := repl ((c - 1 : Nat) : Int) (by omega)
      simp only [List.length_cons, List.length_nil]
      show _ ≤ 16777216
      omega)
    walk_at "e*"
    refine su_lstN put_eq (by simp; omega) ?_
    rw [put_put]
    walk_at "f*"
    exact bk_of (sub_new (D1.non hpd)) (hk _ S1 rfl (last _ (cl_all fun q hq => (List.mem_append.1 hq).elim (rep _ q) fun hq => by rw [List.mem_singleton] at hq; rw [hq]; intro n; cases n <;> rfl) _ rfl) D1)
theorem w_law_sets_of_rows (h : Has P) {n d b : Nat} (hD : Dr d b S) (hb : b < 2 ^ 55) (hk : ∀ S', K (.bl true) S') : callX P (n+4) "_law_sets_of_rows" [.ref d] S K E := by
  refine call_of (σ := [some (.ref d), none, none, none, none, none, none, none]) h.h_law_sets_of_rows rfl rfl ?_
  walk_at "e*"
  refine w_draw h hD (by decide) (by decide) (by omega) fun m0 S1 hm0 D1 => ?_
  walk_at "e"
  refine ss_cons' (st_cut (fun σ' S' => ∃ m : Nat, m ≤ 64 ∧ σ' = [some (.ref d), some (.int m), none, none, none, none, none, none] ∧ Dr d (b + 3) S') (fun nx' hn => ?_) ?_)
  · walk_at "e*"
    refine w_draw h D1 (by decide) (by decide) (by omega) fun r S2 hr D2 => ?_
    walk_at "e*"
    refine if_dec (fun h4 => ?_) (fun h4 => ?_)
    · walk_at "e*"
      refine w_draw h D2 (by decide) (by decide) (by omega) fun r2 S3 hr2 D3 => ?_
      walk_at "e*"
      exact hn _ _ ⟨60 + r2, by omega, rfl, D3⟩
    · walk_at "e*"
      exact hn _ _ ⟨m0, by omega, rfl, D2.mono (by omega)⟩
  rintro σ' S2 ⟨m, hm, rfl, D2⟩
  walk_at "e*"
  refine lc_invC (f := fun k : Nat => D.int k) (l := List.range m) (fun a o T => ∃ z : List Int, o = z.map .int ∧ z.length ≤ a.length ∧ Dr d (b + 3 + a.length) T) (by rw [List.length_range]; show m ≤ 16777216; omega) ⟨[], rfl, Nat.le_refl _, D2⟩ (fun _ _ _ _ => trivial) (fun a o T hI => ?_) (fun a x b' o T Kt e hI k1 k2 => ?_) fun o T hI => ?_
  · obtain ⟨z, rfl, hl, _⟩ := hI
    rw [List.length_map]
    exact hl
  · obtain ⟨z, rfl, hl, D3⟩ := hI
    have hal : a.length < m := by
      have := congrArg List.length e
      simp only [List.length_range, List.length_append, List.length_cons] at this
      omega
    walk_at "e*"
    refine w_draw h D3 (by decide) (by decide) (by omega) fun r S4 hr D4 => ?_
    walk_at "e*"
    refine if_dec (fun h5 => ?_) (fun h5 => ?_)
    · walk_at "e*"
      exact k1 _ _ ⟨z ++ [(x : Int)], by rw [List.map_append]; rfl, by simp; exact hl, D4.mono (by simp; omega)⟩
    · exact k2 _ ⟨z, rfl, by simp; omega, D4.mono (by simp; omega)⟩
  obtain ⟨z, rfl, hl, D3⟩ := hI
  rw [List.length_range] at hl D3
  have hz := cl_ints z
  have hin : ∀ x ∈ z.map D.int, ∀ n, cl n x = true := fun x hx => by
    obtain ⟨y, _, rfl⟩ := List.mem_map.1 hx
    exact cl_int y
  have hlen : (z.map D.int).length ≤ 64 := by rw [List.length_map]; omega
  have hcut : ∀ lo hi : Option Int, (cut (z.map D.int) lo hi).length ≤ 64 := fun lo hi => Nat.le_trans (cut_le _ lo hi) hlen
  have bd : ∀ {a b : List D}, a.length ≤ 200 → b.length ≤ 200 → a.length + b.length ≤ line := fun h1 h2 => by show _ ≤ 16777216; omega
  walk_at "f*"
  refine w_draw h D3 (by omega) (by omega) (by omega) fun pl S4 hpl D4 => ?_
  walk_at "e*"
  refine b_pow ?_ (by decide)
  walk_at "f*"
  refine w_law_pick h D4 (.inl rfl) (Nat.le_of_ble_eq_true rfl) (Nat.lt_of_lt_of_le (show 12 < 13 by decide) (by decide)) (by omega) fun odd hy S5 D5 => ?_
  have hodd : ∀ n, cl n odd = true := by
    simp only [List.mem_cons, List.not_mem_nil, or_false] at hy
    rcases hy with rfl | rfl | rfl | rfl | rfl | rfl | rfl | rfl | rfl | rfl | rfl | rfl <;> (intro n; rcases n with _ | _ | _ | n <;> rfl)
  walk_at "f*"
  refine b_addT ?_ (bd (by omega) (by simp))
  walk_at "f*"
  refine b_addT ?_ (bd (by omega) (by simp))
  walk_at "f*"
  refine b_addT ?_ (bd (by simp) (by omega))
  walk_at "f*"
  refine b_addT ?_ (bd (by omega) (by have := hcut (some (-((1 : Nat) : Int))) none; omega))
  walk_at "f*"
  refine b_addT ?_ (bd (by have := hcut none (some (pl : Int)); omega) (by simp))
  walk_at "f*"
  refine b_addT ?_ (bd (by have := hcut none (some (pl : Int)); rw [List.length_append]; simp; omega) (by have := hcut (some (pl : Int)) none; omega))
  walk_at "f*"
  refine b_addT ?_ (bd (by have := hcut none (some (pl : Int)); omega) (by simp))
  walk_at "f*"
  refine b_addT ?_ (bd (by have := hcut none (some (pl : Int)); rw [List.length_append]; simp; omega) (by have := hcut (some ((pl + 1 : Nat) : Int)) none; omega))
  walk_at "f*"
  refine ex_srtr ?_
  walk_at "f*"
  refine ⟨_, rfl, z, by rw [ints_map]; simp, fun z2 hp2 hs2 => ?_⟩
  walk_at "f*"
  refine lc_m (fun x : Int => .bl (decide (((0 : Nat) : Int) < x))) (by rw [List.length_map] at hlen; show _ ≤ 16777216; omega) (fun x hx Kt k => ?_) ?_
  · walk_at "e*"
    exact k
  walk_at "f*"
  have hz2 : z2.length ≤ 64 := by have := hp2.length_eq; rw [List.length_map] at hlen; omega
  refine lc_mI (fun _ => .bl true) trivial (by show 17 ≤ 16777216; decide) (fun x hx Kt k => ?_) ?_
  · have hx3 : (∀ n, cl n x = true) ∧ ∀ l, x = .tup l → l.length ≤ 10000000 := by
      have tp : ∀ {l : List D}, (∀ q ∈ l, ∀ n, cl n q = true) → l.length ≤ 10000000 → (∀ n, cl n (.tup l) = true) ∧ ∀ m, D.tup l = .tup m → m.length ≤ 10000000 := fun h1 h2 => ⟨cl_all h1, fun m e => by cases e; exact h2⟩
      have ap : ∀ {a b : List D}, (∀ q ∈ a, ∀ n, cl n q = true) → (∀ q ∈ b, ∀ n, cl n q = true) → ∀ q ∈ a ++ b, ∀ n, cl n q = true := fun h1 h2 q hq => (List.mem_append.1 hq).elim (h1 q) (h2 q)
      have sg : ∀ {y : D}, (∀ n, cl n y = true) → ∀ q ∈ [y], ∀ n, cl n q = true := fun hy q hq => by rw [List.mem_singleton] at hq; rw [hq]; exact hy
      have hc : ∀ lo hi, ∀ q ∈ cut (z.map D.int) lo hi, ∀ n, cl n q = true := fun lo hi q hq => hin q (cut_mem hq)
      have no : ∀ {y : D}, (∀ n, cl n y = true) → (∀ l, y ≠ .tup l) → (∀ n, cl n y = true) ∧ ∀ m, y = .tup m → m.length ≤ 10000000 := fun h1 h2 => ⟨h1, fun m e => absurd e (h2 m)⟩
      simp only [List.mem_cons, List.not_mem_nil, or_false] at hx
      rcases hx with rfl | rfl | rfl | rfl | rfl | rfl | rfl | rfl | rfl | rfl | rfl | rfl | rfl | rfl | rfl | rfl | rfl
      · exact tp hin (by omega)
      · exact tp (fun _ h => (nomatch h)) (Nat.zero_le _)
      · refine tp (fun q hq => ?_) (by simp; omega)
        obtain ⟨y, _, rfl⟩ := List.mem_map.1 hq
        exact cl_int _
      · exact tp (ap hin (sg (cl_int _))) (by rw [List.length_append]; simp only [List.length_cons, List.length_nil]; omega)
      · exact tp (ap hin (sg (cl_int _))) (by rw [List.length_append]; simp only [List.length_cons, List.length_nil]; omega)
      · exact tp (ap (sg (cl_int _)) hin) (by rw [List.length_append]; simp only [List.length_cons, List.length_nil]; omega)
      · exact tp (ap hin (hc _ _)) (by have := hcut (some (-((1 : Nat) : Int))) none; rw [List.length_append]; omega)
      · exact tp (ap (ap (hc _ _) (sg hodd)) (hc _ _)) (by have := hcut none (some (pl : Int)); have := hcut (some (pl : Int)) none; rw [List.length_append, List.length_append]; simp only [List.length_cons, List.length_nil]; omega)
      · exact tp (ap (ap (hc _ _) (sg hodd)) (hc _ _)) (by have := hcut none (some (pl : Int)); have := hcut (some ((pl + 1 : Nat) : Int)) none; rw [List.length_append, List.length_append]; simp only [List.length_cons, List.length_nil]; omega)
      · exact no (fun n => by cases n <;> rfl) (fun l e => nomatch e)
      · exact tp (sg hz) (by simp)
      · refine tp (fun q hq => ?_) (by rw [List.length_map]; omega)
        obtain ⟨y, _, rfl⟩ := List.mem_map.1 hq
        exact cl_int _
      · refine tp (fun q hq => ?_) (by rw [List.length_map]; rw [List.length_map] at hlen; omega)
        obtain ⟨y, _, rfl⟩ := List.mem_map.1 hq
        intro n; cases n <;> rfl
      · exact no (fun n => by cases n <;> rfl) (fun l e => nomatch e)
      · exact no (cl_int _) (fun l e => nomatch e)
      · exact no (fun n => by cases n <;> rfl) (fun l e => nomatch e)
      · exact tp hin (by omega)
    walk_at "e*"
    refine w_is_row_set h (hx3.1 1) ?_
    walk_at "e*"
    refine w_law_is_rows h (hx3.1 1) hx3.2 ?_
    walk_at "e*"
    refine w_law_says h ?_
    have e : (isRows m x == isRows m x) = true := by simp
    rw [e]
    exact k
  walk_at "f*"
  have e2 : ∀ L : List D, (L.all fun _ => true) = true := fun L => by simp
  rw [e2]
  exact bk_self (hk _)
def asD (q : Nat × D) : D := .tup [.int q.1, q.2]
theorem GR.list_cl {c : Nat} {rs : List D} (g : ∀ x ∈ rs, GR c x) : ∀ n, cl n (.tup rs) = true := cl_all fun x hx => (g x hx).clo
theorem law_ok (h : Has P) : LawX P 12 63 "law" := by
  intro ns hn hz
  refine call_of (σ := [some (.fz (ns.map .int)), none, none, none, none, none, none, none, none, none, none, none]) h.h_law rfl rfl ?_
  walk_at "e*"
  refine w_begin h hz hn fun d S0 D0 => ?_
  walk_at "e*"
  refine w_draw h D0 (by decide) (by decide) (by decide) fun c0 S1 hc0 D1 => ?_
  walk_at "e*"
  refine w_draw h D1 (by decide) (by decide) (by decide) fun m0 S2 hm0 D2 => ?_
  walk_at "e"
  obtain ⟨c, hc, h1, hc6⟩ : ∃ c : Nat, c = 1 + c0 ∧ 1 ≤ c ∧ c ≤ 6 := ⟨_, rfl, by omega, by omega⟩
  rw [← hc]
  refine ss_cons' (st_cut (fun σ' S' => ∃ m : Nat, m ≤ 64 ∧ σ' = [some (.fz (ns.map .int)), some (.ref d), some (.int c), some (.int m), none, none, none, none, none, none, none, none] ∧ Dr d 4 S') (fun nx' hn => ?_) ?_)
  · walk_at "e*"
    refine w_draw h D2 (by decide) (by decide) (by decide) fun r S3 hr D3 => ?_
    walk_at "e*"
    refine if_dec (fun h4 => ?_) (fun h4 => ?_)
    · walk_at "e*"
      refine w_draw h D3 (by decide) (by decide) (by decide) fun r2 S4 hr2 D4 => ?_
      walk_at "e*"
      exact hn _ _ ⟨63 + r2, by omega, rfl, D4⟩
    · walk_at "e*"
      exact hn _ _ ⟨m0, by omega, rfl, D3.mono (by omega)⟩
  rintro σ' S3 ⟨m, hm, rfl, D3⟩
  walk_at "e*"
  refine lc_invC (f := fun k : Nat => D.int k) (l := List.range (min m 7)) (fun a o T => (∀ x ∈ o, GR c x) ∧ o.length = a.length ∧ Dr d (4 + 200 * a.length) T) (by rw [List.length_range]; show _ ≤ 16777216; omega) ⟨fun _ h => (nomatch h), rfl, D3⟩ (fun _ _ _ _ => trivial) (fun a o T hI => ?_) (fun a x b' o T Kt e hI k1 k2 => ?_) fun o T hI => ?_
  · exact Nat.le_of_eq hI.2.1
  · obtain ⟨g, hl, D4⟩ := hI
    have hal : a.length < 7 := by
      have := congrArg List.length e
      simp only [List.length_range, List.length_append, List.length_cons] at this
      omega
    walk_at "e*"
    refine w_law_good_row h D4 (by omega) (by omega) fun x S5 gx D5 => ?_
    refine k1 _ _ ⟨fun q hq => ?_, by simp [hl], D5.mono (by simp; omega)⟩
    rcases List.mem_append.1 hq with hq | hq
    · exact g q hq
    · rw [List.mem_singleton] at hq; rw [hq]; exact gx
  obtain ⟨g0, hl0, D4⟩ := hI
  rw [List.length_range] at hl0 D4
  walk_at "f*"
  refine b_mulT (by omega) ?_
  walk_at "f*"
  have hg : ∀ x ∈ cut (List.replicate (((10 : Nat) : Int)).toNat o).flatten none (some (m : Int)), GR c x := fun x hx => by
    obtain ⟨u, hu, hx⟩ := List.mem_flatten.1 (cut_mem hx)
    rw [List.eq_of_mem_replicate hu] at hx
    exact g0 x hx
  have hlr : (cut (List.replicate (((10 : Nat) : Int)).toNat o).flatten none (some (m : Int))).length ≤ 64 := by
    rw [cut_take, List.length_take]; omega
  generalize cut (List.replicate (((10 : Nat) : Int)).toNat o).flatten none (some (m : Int)) = rs at hg hlr ⊢
  clear g0 hl0
  have hcl := GR.list_cl hg
  refine b_addT ?_ (by have := cut_le rs (some (-((1 : Nat) : Int))) none; show _ ≤ 16777216; omega)
  walk_at "e*"
  refine w_draw h D4 (by decide) (by decide) (by omega) fun c2 S5 hc2 D5 => ?_
  walk_at "e*"
  refine nl_ref fun p hp => ?_
  have hpd := D5.ne hp
  walk_at "e*"
  refine for_range (fun i σ T => ∃ u, ∃ (l : List (Nat × D)) (S2 : Sto), σ = [some (.fz (ns.map .int)), some (.ref d), some (.int c), some (.int m), some (.tup rs), some (.ref p), u, none, none, none, none, none] ∧ T = put S2 p (.lst (l.map asD)) ∧ l.length = 3 + i ∧ (∀ x ∈ l, Tg c x) ∧ Dr d (2000 + 400 * i) S2)
    ⟨none, [(c, .tup rs), (c, .tup (rs ++ cut rs (some (-((1 : Nat) : Int))) none)), (1 + c2, .tup rs)], S5, rfl, rfl, rfl, fun x hx => ?_, D5.mono (by omega)⟩ ?_ ?_
  · simp only [List.mem_cons, List.not_mem_nil, or_false] at hx
    rcases hx with rfl | rfl | rfl
    · exact ⟨by show c ≤ 64; omega, hcl 3⟩
    · exact ⟨by show c ≤ 64; omega, cl_all (fun q hq => (List.mem_append.1 hq).elim (fun hq => (hg q hq).clo) fun hq => (hg q (cut_mem hq)).clo) 3⟩
    · exact ⟨by show 1 + c2 ≤ 64; omega, hcl 3⟩
  · rintro i σ T K2 hi ⟨u, l, S6, rfl, rfl, hll, hcl2, D6⟩ hK
    walk_at "e*"
    refine call_fr (D6.non hpd) (w_law_odd_table h D6 h1 (by omega) hg hlr (by omega) fun y S7 hy D7 => ?_)
    walk_at "e*"
    refine mt_append put_eq ?_ (by rw [List.length_map]; show _ < 16777216; omega)
    walk_at "e*"
    rw [put_put]
    exact hK _ _ ⟨_, l ++ [(c, y)], S7, rfl, by rw [List.map_append]; rfl, by simp [hll]; omega, fun x hx => (List.mem_append.1 hx).elim (hcl2 x) fun hx => by
      rw [List.mem_singleton] at hx
      rw [hx]
      exact ⟨by show c ≤ 64; omega, hy 3⟩, D7.mono (by omega)⟩
  rintro σ T ⟨u, l, S6, rfl, rfl, hll, hcl2, D6⟩
  walk_at "e*"
  refine call_fr (D6.non hpd) (w_law_twins h D6 h1 (by omega) (by omega) fun L S7 hL hLc D7 => ?_)
  walk_at "e*"
  refine lc_mI (fun x => asD (c, x)) trivial (by show _ ≤ 16777216; omega) (fun x hx Kt k => ?_) ?_
  · walk_at "e*"
    exact k
  refine nl_fz ?_
  walk_at "e*"
  refine mt_extend put_eq rfl ?_ (by rw [List.length_map, List.length_map]; show _ ≤ 16777216; omega)
  walk_at "e*"
  rw [put_put]
  refine mt_append put_eq ?_ (by rw [List.length_append, List.length_map, List.length_map]; show _ < 16777216; omega)
  walk_at "e*"
  rw [put_put]
  have el : l.map asD ++ L.map (fun x => asD (c, x)) ++ [D.tup [.int c, .tup rs]] = (l ++ L.map (fun x => (c, x)) ++ [(c, D.tup rs)]).map asD := by
    rw [List.map_append, List.map_append, List.map_map]; rfl
  rw [el]
  have hall : ∀ x ∈ l ++ L.map (fun x => (c, x)) ++ [(c, D.tup rs)], Tg c x := fun x hx => by
    rcases List.mem_append.1 hx with hx | hx
    · rcases List.mem_append.1 hx with hx | hx
      · exact hcl2 x hx
      · obtain ⟨y, hy, rfl⟩ := List.mem_map.1 hx
        exact ⟨by show c ≤ 64; omega, hLc y hy 3⟩
    · rw [List.mem_singleton] at hx
      rw [hx]
      exact ⟨by show c ≤ 64; omega, hcl 3⟩
  generalize l ++ L.map (fun x => (c, x)) ++ [(c, D.tup rs)] = A at hall ⊢
  refine for_mapC (fun a σ T => ∃ v w y z, σ = [some (.fz (ns.map .int)), some (.ref d), some (.int c), some (.int m), some (.tup rs), some (.ref p), u, v, w, y, z, none] ∧ T = put S7 p (.lst (A.map asD))) ⟨_, _, _, _, rfl, rfl⟩ (fun a σ T hI => ?_) ?_ ?_
  · obtain ⟨_, _, _, _, _, rfl⟩ := hI
    exact put_eq
  · rintro a x b' σ T K2 e ⟨v, w, y, z, rfl, rfl⟩ hK
    obtain ⟨hx1, hx2⟩ := hall x (by rw [e]; simp)
    obtain ⟨f1, f2, f3, f4, f5, f6⟩ := du_pl (S := put S7 p (.lst (A.map asD))) x.1 x.2
    walk_at "e*"
    refine w_law_due h hx1 hx2 ?_
    walk_at "e*"
    refine w_law_told h hx1 hx2 ?_
    walk_at "e*"
    refine w_law_plain h f1 f2 ?_
    walk_at "e*"
    refine c_neD f3 f3 f4 f4 f5 ?_
    walk_at "e*"
    refine w_is_table h hx1 hx2 ?_
    walk_at "e*"
    refine c_eqD f3 rfl f4 rfl f6 ?_
    walk_at "e*"
    refine w_law_says h ?_
    have e2 : ((tabF x.1 x.2).isNone == (tabF x.1 x.2).isNone) = true := by simp
    rw [e2]
    walk_at "e*"
    exact hK _ _ ⟨_, _, _, _, rfl, rfl⟩
  · rintro σ T ⟨v, w, y, z, rfl, rfl⟩
    walk_at "e*"
    refine call_fr (D7.non hpd) (w_law_sets_of_rows h (D7.mono (show _ ≤ 5000 by omega)) (by decide) fun S8 => ?_)
    exact fr_no (bk_self rfl)

end
end K22
open PySem PySem.W PySem.Calls PyProof.Rows
theorem PySem.Challenge.cw_rowtruce_k22_tables_checked_holds : PySem.Challenge.rw_rowtruce_k22_tables_checked.Holds := by
  w_on; o_law
  refine HandSHeadRun.head_any (r := OpenLaw.row PySem.Challenge.rw_rowtruce_k22_tables_checked) (q := view (OpenLaw.row PySem.Challenge.rw_rowtruce_k22_tables_checked).prog [43]) (H := K22.hk) (ob := K22.ob) (M := 5760) (loose := K22.lo)
    (d := HandSHeadRun.topDef (OpenLaw.row PySem.Challenge.rw_rowtruce_k22_tables_checked).prog 43) (kwd := []) K22.ob_eq
    (by kernel_rfl) (fun s => by kernel_rfl) K22.runs (by kernel_rfl) (by kernel_rfl) (by kernel_rfl) (by rfl) (by first | assumption | decide +kernel)
    (by decide +kernel) ⟨rfl, rfl, rfl, rfl, rfl, by decide +kernel⟩ ?hw ?hc
  case hw => w_witness2
  case hc =>
    exact Ev.law_end (l := PySem.Challenge.rw_rowtruce_k22_tables_checked) (n := 63) (k := 12) (T := K22.T) (e := K22.e_law) rfl (by decide) (by kernel_rfl) ⟨rfl, by decide, by decide⟩
      K22.T_ok (List.mem_of_getElem? (i := 24) rfl) rfl (by kernel_rfl) (by kernel_rfl) (Ev.lawX (K22.law_ok K22.T_has)) K22.T_xs (.inr ⟨by kernel_rfl, by kernel_rfl⟩)

