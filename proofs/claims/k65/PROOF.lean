import PyProof.Rows.All
import Wide.All
import OpenK.AllK
import Wide.FinOn
import HandS.ForMost
import HandS.ForExc
import HandS.WideBits
import HandS.IsInst
import HandS.ExcIs
import HandS.TryOnly
import HandS.HotCalls
import HandS.Defaults
import HandS.Style
import HandS.Deep
import HandS.More
import HandS.Dict
import HandS.DictTup
import HandS.DictComp
import HandS.Finally
import HandS.Iter
import HandS.Codes
import KE.KDictOf
import KE.KDictCopyH
import HandS.DictEq
import HandS.DeepEq
import PySem.Challenge.RW_glazehall_k65_stretches_moved
set_option Elab.async false
set_option linter.all false
set_option maxRecDepth 100000
set_option maxHeartbeats 4000000

/-! As calculus of our own over the hand layer: values with immutable data as data (D), a store of locations (O), a small syntax (E, T, Bl), and what a piece of it wants of what follows (den .., by recursion). -/
namespace Wp
open PySem L2

inductive D where
  | non | bl (b : Bool) | int (i : Int) | str (x : Str) | tup (xs : List D) | rol (xs : List D) | loc (n : Nat) | exc (c : Nat) | key (ks : List L2.Key)
inductive O where
  | lst (xs : List D)
  | ins (C : Nat) (fs : List (Nat × D))
  | dk (kvs : List (L2.Key × D)) | dt (kvs : List (List L2.Key × D))
  | fk (kvs : List (L2.Key × D)) | ft (kvs : List (List L2.Key × D))
abbrev Sto := List O
abbrev Env := List (Option D)
abbrev QD := D → Sto → Prop
abbrev XD := Nat → Sto → Prop
/-- what follows a statement -/
structure Z where
  nx : Env → Sto → Prop
  rt : QD
  bk : Env → Sto → Prop
  ct : Env → Sto → Prop
  ex : Nat → Env → Sto → Prop
abbrev Den := Env → Sto → QD → XD → Prop
abbrev DenA := Env → Sto → (List D → Sto → Prop) → XD → Prop
abbrev DenT := Env → Sto → (Bool → Sto → Prop) → XD → Prop
abbrev DenS := Env → Sto → Z → Prop
/-- a def's contract: the arguments, the store, the wanted end, the wanted exception -/
abbrev Ctr := List D → Sto → QD → XD → Prop

inductive Op | add | sub | mul | fdiv | mod | pow deriving DecidableEq
inductive Cop | lt | le | gt | ge | eq | ne | is_ | isn | in_ | nin | deq | dne deriving DecidableEq
/-- built-ins by name -/
inductive Blt | len | abs | min2 | max2 | all | tuple | list | int1 | divmod | sorted | dlist | dcopy deriving DecidableEq
/-- a built-in type's methods -/
inductive Mt | append | clear | upper | insert | popAt | extend | dpop1 | dpop2 | dclear | dget1 | dget2 deriving DecidableEq
/-- classes that isinstance asks for -/
inductive Cl | int | bool | str | tuple | list | dict | own (C : Nat) deriving DecidableEq

/-- classes that an except clause's name is asked for -/
inductive XC | own (k : Nat) | vErr deriving DecidableEq

inductive Tg | nm (i : Nat) | tp (is : List Nat)
mutual
inductive E
  | var (i : Nat) | int (k : Int) | bl (b : Bool) | str (s : Str) | non
  | glob (g : Nat)
  | bin (op : Op) (a b : E) | neg (a : E)
  | cmp (a : E) (ops : List Cop) (es : As)
  | ands (es : As) | ors (es : As) | notv (a : E)
  | ifx (t : T) (a b : E)
  | tup (es : As) | lst (es : As)
  | ix (a b : E) | sl (a : E) (lo hi : As)
  | call (f : Nat) (es : As) (dn : Nat) | blt (b : Blt) (es : As) | make (C : Nat) (es : As) (dn : Nat) | meth (m : Nat) (o : E) (es : As) (dn : Nat) | bm (m : Mt) (o : E) (es : As)
  | isa (a : E) (cs : List Cl)
  | lc (e : E) (tg : Tg) (it : It) (ts : Ts)
  | fld (a : E) (f : Nat)
  | isaX (i : Nat) (cs : List XC)
  | make0 (C : Nat)
  | callX (f i : Nat)
  | dnew (t : Bool) | dlit (kvs : List (Int × Int)) | key (es : As) | dget (o k : E) | dgetf (o k : E) | methd (m f : Nat) (o : E) (es : As)
inductive As | nil | cons (e : E) (r : As)
inductive T
  | tr (e : E) | cmp (a : E) (ops : List Cop) (es : As) | ands (ts : Ts) | ors (ts : Ts) | nott (t : T)
inductive Ts | nil | cons (t : T) (r : Ts)
inductive It | over (e : E) | rng1 (e : E) | rng2 (a b : E) | enum (e : E) | keys (e : E) | items (e : E)
end
mutual
inductive Sm
  | set (i : Nat) (e : E) | setg (tg : Tg) (e : E) | par (i j : Nat) (a b : E)
  | aug (i : Nat) (op : Op) (e : E)
  | fset (o : E) (f : Nat) (e : E) | faug (o : E) (f : Nat) (op : Op) (e : E)
  | iset (o i e : E) | dset (o k e : E) | daug (o k : E) (op : Op) (e : E)
  | expr (e : E) | ret (e : E) | retN
  | ife (t : T) (a b : Bl)
  | whil (t : T) (b : Bl)
  | for_ (tg : Tg) (it : It) (b : Bl)
  | brk | cont | pass
  | raise (c : Nat)
  | tryx (b : Bl) (C : Nat) (sl : Option Nat) (h : Bl)
  | lock (s : Sm)
inductive Bl | nil | cons (s : Sm) (r : Bl)
end

/-! ### tables -/
section
variable {κ : Type} [DecidableEq κ]
def valD (kvs : List (κ × D)) (k : κ) : Option D := (kvs.find? fun kv => decide (kv.1 = k)).map (·.2)
def putD (kvs : List (κ × D)) (k : κ) (v : D) : List (κ × D) := if kvs.any (fun kv => decide (kv.1 = k)) then kvs.map (fun kv => if kv.1 = k then (kv.1, v) else kv) else kvs ++ [(k, v)]
def dropD (kvs : List (κ × D)) (k : κ) : List (κ × D) := kvs.filter fun kv => decide (kv.1 ≠ k)
end
def keyOf : D → Option L2.Key
  | .int i => some (.inl i)
  | .str x => some (.inr x)
  | _ => none
def keysOf : List D → Option (List L2.Key)
  | [] => some []
  | d :: r => match keyOf d, keysOf r with
    | some k, some ks => some (k :: ks)
    | _, _ => none
/-- keys whose hashes differ: cells of a small grid -/
def gridK : List L2.Key → Bool
  | [.inl i, .inl j] => decide (0 ≤ i) && decide (i < 16) && decide (0 ≤ j) && decide (j < 16)
  | _ => false
/-- what a dict holds at a key -/
def dgD (x y : D) (S : Sto) (R : Option D → Prop) : Prop := match x, y with
  | .loc n, .key ks => ∃ kvs, S[n]? = some (.dt kvs) ∧ R (valD kvs ks)
  | .loc n, .int i => ∃ kvs, S[n]? = some (.dk kvs) ∧ R (valD kvs (.inl i))
  | .loc n, .str z => ∃ kvs, S[n]? = some (.dk kvs) ∧ R (valD kvs (.inr z))
  | _, _ => False
/-- .. while it is walked -/
def dgfD (x y : D) (S : Sto) (R : Option D → Prop) : Prop := match x, y with
  | .loc n, .key ks => ∃ kvs, S[n]? = some (.ft kvs) ∧ R (valD kvs ks)
  | .loc n, .int i => ∃ kvs, S[n]? = some (.fk kvs) ∧ R (valD kvs (.inl i))
  | _, _ => False
def keyD : L2.Key → D
  | .inl i => .int i
  | .inr x => .str x
/-- a dict that is walked -/
def frzO : O → Option O
  | .dk kvs => some (.fk kvs)
  | .dt kvs => some (.ft kvs)
  | _ => none
def lockZ (n : Nat) (u o : O) (z : Z) : Z where
  nx := fun ρ S => S[n]? = some u ∧ z.nx ρ (S.set n o)
  rt := fun d S => S[n]? = some u ∧ z.rt d (S.set n o)
  bk := fun ρ S => S[n]? = some u ∧ z.bk ρ (S.set n o)
  ct := fun ρ S => S[n]? = some u ∧ z.ct ρ (S.set n o)
  ex := fun _ _ _ => False
def dpD (x y v : D) (S : Sto) (R : Sto → Prop) : Prop := match x, y with
  | .loc n, .key ks => ∃ kvs, S[n]? = some (.dt kvs) ∧ kvs.length < 16777216 ∧ R (S.set n (.dt (putD kvs ks v)))
  | .loc n, .int i => ∃ kvs, S[n]? = some (.dk kvs) ∧ kvs.length < 16777216 ∧ R (S.set n (.dk (putD kvs (.inl i) v)))
  | .loc n, .str z => ∃ kvs, S[n]? = some (.dk kvs) ∧ kvs.length < 16777216 ∧ R (S.set n (.dk (putD kvs (.inr z) v)))
  | _, _ => False

/-! ### the meaning of the operations -/
def Br (b : Bool) (P Q : Prop) : Prop := (b = true → P) ∧ (b = false → Q)
def DivOk (i j : Int) : Prop := j ≠ 0 ∧ Builtin.divisionGoesByPylong i j = false
def PowOk (i j : Int) : Prop := 0 ≤ j ∧ j ≤ 1000000 ∧ i.natAbs < 2 ^ 64
def lenOk {α : Type} (xs : List α) : Prop := xs.length ≤ 16777216
def intOp : Op → Int → Int → (Int → Prop) → Prop
  | .add, i, j, k => k (i + j)
  | .sub, i, j, k => k (i - j)
  | .mul, i, j, k => IntMulOk i j ∧ k (i * j)
  | .fdiv, i, j, k => DivOk i j ∧ k (i.fdiv j)
  | .mod, i, j, k => j ≠ 0 ∧ k (i.fmod j)
  | .pow, i, j, k => PowOk i j ∧ k (i ^ j.toNat)
def lstAt (S : Sto) (n : Nat) : Option (List D) := match S[n]? with
  | some (.lst xs) => some xs
  | _ => none
/-- the items of a sequence -/
def itemsOf (S : Sto) : D → Option (List D)
  | .tup xs => some xs
  | .rol xs => some xs
  | .loc n => lstAt S n
  | .key ks => some (ks.map keyD)
  | _ => none
def keyPy : L2.Key → PyData
  | .inl i => .int i
  | .inr x => .str x
def binD : Op → D → D → Sto → QD → Prop
  | op, .int i, .int j, S, Q => intOp op i j fun k => Q (.int k) S
  | .add, .str x, .str y, S, Q => x.length + y.length ≤ 16777216 ∧ Q (.str (x ++ y)) S
  | .add, .tup xs, .tup ys, S, Q => xs ≠ [] ∧ xs.length + ys.length ≤ 16777216 ∧ Q (.tup (xs ++ ys)) S
  | .add, .loc n, .loc k, S, Q => ∃ xs ys, lstAt S n = some xs ∧ lstAt S k = some ys ∧ xs.length + ys.length ≤ 16777216 ∧ Q (.loc S.length) (S ++ [.lst (xs ++ ys)])
  | _, _, _, _, _ => False
mutual
/-- a thing as data; lists by their items, so deep -/
def toPy (S : Sto) : Nat → D → Option PyData
  | _, .non => some .none
  | _, .bl b => some (.bool b)
  | _, .int i => some (.int i)
  | _, .str x => some (.str x)
  | _, .key ks => some (.tuple (ks.map keyPy))
  | k + 1, .tup xs => (toPys S k xs).map .tuple
  | k + 1, .rol xs => (toPys S k xs).map .list
  | k + 1, .loc n => match S[n]? with
    | some (.lst xs) => (toPys S k xs).map .list
    | _ => none
  | _, _ => none
def toPys (S : Sto) : Nat → List D → Option (List PyData)
  | _, [] => some []
  | 0, _ :: _ => none
  | k + 1, x :: r => match toPy S k x, toPys S k r with
    | some d, some ds => some (d :: ds)
    | _, _ => none
end
/-- == as Python has it -/
def eqD (x y : D) (S : Sto) (k : Bool → Prop) : Prop := match x, y with
  | .int i, .int j => k (i == j)
  | _, _ => ∃ f d e, toPy S f x = some d ∧ toPy S f y = some e ∧ SeqAt.shaped d = true ∧ SeqAt.shaped e = true ∧ k (PyData.eqv d e)
def isNon : D → Bool
  | .non => true
  | _ => false
/-- x in a list of data, in a tuple of ints -/
def inD (x y : D) (S : Sto) (k : Bool → Prop) : Prop := match y with
  | .loc n => match S[n]? with
    | some (.lst xs) => ∃ f d ds, toPy S f x = some d ∧ toPys S f xs = some ds ∧ SeqAt.shaped d = true ∧ SeqAt.shaped (.list ds) = true ∧ k (ds.any fun z => PyData.eqv z d)
    | some (.dk _) => dgD y x S fun o => k o.isSome
    | some (.dt _) => dgD y x S fun o => k o.isSome
    | _ => False
  | .tup xs => ∃ (i : Int) (is : List Int), x = .int i ∧ xs = is.map .int ∧ k (is.any fun j => j == i)
  | _ => False
/-- equal data -/
def leafD (S : Sto) (x y : D) : Prop := ∃ f d e, toPy S f x = some d ∧ toPy S f y = some e ∧ SeqAt.shaped d = true ∧ SeqAt.shaped e = true ∧ PyData.eqv d e = true
/-- two dicts that are alike -/
def deqD (n m : Nat) (S : Sto) : Prop := (∃ a b : List (L2.Key × D), S[n]? = some (.dk a) ∧ S[m]? = some (.dk b) ∧ a.length = b.length ∧ ∀ p ∈ a, ∃ i : Int, p.2 = .int i ∧ valD b p.1 = some (.int i)) ∨
  ∃ a b : List (List L2.Key × D), S[n]? = some (.dt a) ∧ S[m]? = some (.dt b) ∧ a.length = b.length ∧ ∀ p ∈ a, ∃ v, valD b p.1 = some v ∧ leafD S p.2 v
def litD (kvs : List (Int × Int)) (acc : List (L2.Key × D)) : List (L2.Key × D) := kvs.foldl (fun acc p => putD acc (.inl p.1) (.int p.2)) acc
def copD : Cop → D → D → Sto → (Bool → Prop) → Prop
  | .lt, .int i, .int j, _, k => k (decide (i < j))
  | .le, .int i, .int j, _, k => k (decide (i ≤ j))
  | .gt, .int i, .int j, _, k => k (decide (j < i))
  | .ge, .int i, .int j, _, k => k (decide (j ≤ i))
  | .eq, x, y, S, k => eqD x y S k
  | .ne, x, y, S, k => eqD x y S fun b => k (!b)
  | .is_, x, .non, _, k => k (isNon x)
  | .isn, x, .non, _, k => k (!isNon x)
  | .is_, .bl a, .bl b, _, k => k (decide (a = b))
  | .isn, .bl a, .bl b, _, k => k (!decide (a = b))
  | .in_, x, y, S, k => inD x y S k
  | .nin, x, y, S, k => inD x y S fun b => k (!b)
  | .deq, .loc n, .loc m, S, k => deqD n m S ∧ k true
  | .dne, .loc n, .loc m, S, k => deqD n m S ∧ k false
  | _, _, _, _, _ => False
def truD : D → Sto → (Bool → Prop) → Prop
  | .non, _, k => k false
  | .bl b, _, k => k b
  | .int i, _, k => k (i != 0)
  | .tup xs, _, k => k (!xs.isEmpty)
  | .rol xs, _, k => k (!xs.isEmpty)
  | .loc n, S, k => ∃ xs, lstAt S n = some xs ∧ k (!xs.isEmpty)
  | _, _, _ => False
def ixD : D → D → Sto → QD → Prop
  | .tup xs, .int i, S, Q => ∃ v, atI xs i = some v ∧ Q v S
  | .rol xs, .int i, S, Q => ∃ v, atI xs i = some v ∧ Q v S
  | .loc n, .int i, S, Q => ∃ xs v, lstAt S n = some xs ∧ atI xs i = some v ∧ Q v S
  | .key ks, .int i, S, Q => ∃ v, atI (ks.map keyD) i = some v ∧ Q v S
  | _, _, _, _ => False
def bools : List D → Option (List Bool)
  | [] => some []
  | .bl b :: r => (bools r).map (b :: ·)
  | _ => none
def bltD : Blt → List D → Sto → QD → Prop
  | .len, [.tup xs], S, Q => Q (.int xs.length) S
  | .len, [.rol xs], S, Q => Q (.int xs.length) S
  | .len, [.loc n], S, Q => ∃ xs, lstAt S n = some xs ∧ Q (.int xs.length) S
  | .len, [.str x], S, Q => x.length ≤ 16777216 ∧ Q (.int x.length) S
  | .abs, [.int i], S, Q => Q (.int (if i < 0 then -i else i)) S
  | .min2, [.int i, .int j], S, Q => Q (.int (if j < i then j else i)) S
  | .max2, [.int i, .int j], S, Q => Q (.int (if j > i then j else i)) S
  | .all, [.loc n], S, Q => ∃ xs bs, lstAt S n = some xs ∧ bools xs = some bs ∧ Q (.bl (bs.all id)) S
  | .tuple, [.tup xs], S, Q => Q (.tup xs) S
  | .tuple, [.rol xs], S, Q => Q (.tup xs) S
  | .tuple, [.loc n], S, Q => ∃ xs, lstAt S n = some xs ∧ Q (.tup xs) S
  | .list, [.tup xs], S, Q => Q (.loc S.length) (S ++ [.lst xs])
  | .list, [.rol xs], S, Q => Q (.loc S.length) (S ++ [.lst xs])
  | .list, [.loc n], S, Q => ∃ xs, lstAt S n = some xs ∧ Q (.loc S.length) (S ++ [.lst xs])
  | .int1, [.int i], S, Q => Q (.int i) S
  | .int1, [.bl b], S, Q => Q (.int (if b then 1 else 0)) S
  | .sorted, [.loc n], S, Q => ∃ kvs is, S[n]? = some (.dk kvs) ∧ (kvs.map (·.1) = is.map Sum.inl ∧ is.length < 64) ∧ ∀ ys : List Int, ys.Perm is → ys.Pairwise (· ≤ ·) → Q (.loc S.length) (S ++ [.lst (ys.map .int)])
  | .dlist, [.loc n], S, Q => ∃ kvs : List (L2.Key × D), S[n]? = some (.dk kvs) ∧ Q (.loc S.length) (S ++ [.lst (kvs.map fun p => keyD p.1)])
  | .dcopy, [.loc n], S, Q => (∃ kvs : List (L2.Key × D), S[n]? = some (.dk kvs) ∧ Q (.loc S.length) (S ++ [.dk kvs])) ∨ ∃ kvs : List (List L2.Key × D), S[n]? = some (.dt kvs) ∧ (∀ p ∈ kvs, gridK p.1 = true) ∧ Q (.loc S.length) (S ++ [.dt kvs])
  | .divmod, [.int i, .int j], S, Q => 0 < j ∧ Builtin.divisionGoesByPylong i j = false ∧ Q (.tup [.int (i / j), .int (i % j)]) S
  | _, _, _, _ => False
def setLst (S : Sto) (n : Nat) (xs : List D) : Sto := S.set n (.lst xs)
def bmD : Mt → D → List D → Sto → QD → Prop
  | .append, .loc n, [x], S, Q => ∃ xs, lstAt S n = some xs ∧ xs.length < 16777216 ∧ Q .non (setLst S n (xs ++ [x]))
  | .clear, .loc n, [], S, Q => ∃ xs, lstAt S n = some xs ∧ Q .non (setLst S n [])
  | .upper, .str x, [], S, Q => x.length ≤ 5592405 ∧ Q (.str (Txt.upper x)) S
  | .insert, .loc n, [.int i, x], S, Q => ∃ xs, lstAt S n = some xs ∧ (xs.length < 16777216 ∧ 0 ≤ i ∧ i < 2 ^ 63) ∧ Q .non (setLst S n (xs.take i.toNat ++ [x] ++ xs.drop i.toNat))
  | .popAt, .loc n, [.int i], S, Q => ∃ xs v, lstAt S n = some xs ∧ (0 ≤ i ∧ i < 2 ^ 62 ∧ xs[i.toNat]? = some v) ∧ Q v (setLst S n (xs.eraseIdx i.toNat))
  | .dpop1, .loc n, [.int i], S, Q => ∃ kvs v, S[n]? = some (.dk kvs) ∧ valD kvs (.inl i) = some v ∧ Q v (S.set n (.dk (dropD kvs (.inl i))))
  | .dpop2, .loc n, [.key ks, d], S, Q => ∃ kvs, S[n]? = some (.dt kvs) ∧ (∀ v, valD kvs ks = some v → Q v (S.set n (.dt (dropD kvs ks)))) ∧ (valD kvs ks = none → Q d S)
  | .dget1, .loc n, [y], S, Q => dgD (.loc n) y S fun r => Q (r.getD .non) S
  | .dget2, .loc n, [y, d], S, Q => dgD (.loc n) y S fun r => Q (r.getD d) S
  | .dclear, .loc n, [], S, Q => ∃ kvs, S[n]? = some (.dk kvs) ∧ Q .non (S.set n (.dk []))
  | .extend, .loc n, [.loc k], S, Q => ∃ xs ys, lstAt S n = some xs ∧ (lstAt S k = some ys ∧ xs.length + ys.length ≤ 16777216) ∧ Q .non (setLst S n (xs ++ ys))
  | _, _, _, _, _ => False
/-- the types that isinstance meets -/
inductive TyC | non | bool | int | str | tuple | list | dict | own (C : Nat) deriving DecidableEq
def tyC (S : Sto) : D → Option TyC
  | .non => some .non
  | .bl _ => some .bool
  | .int _ => some .int
  | .str _ => some .str
  | .tup _ => some .tuple
  | .rol _ => some .list
  | .loc n => match S[n]? with
    | some (.lst _) => some .list
    | some (.ins C _) => some (.own C)
    | some (.dk _) => some .dict
    | some (.dt _) => some .dict
    | _ => none
  | .exc _ => none
  | .key _ => some .tuple
/-- of the built-in ones -/
def isaB : TyC → Cl → Option Bool
  | .own _, _ => none
  | _, .own _ => none
  | .non, _ => some false
  | .bool, .bool => some true
  | .bool, .int => some true
  | .int, .int => some true
  | .str, .str => some true
  | .tuple, .tuple => some true
  | .list, .list => some true
  | .dict, .dict => some true
  | _, _ => some false
def isaAny (one : TyC → Cl → Option Bool) (t : TyC) : List Cl → Option Bool
  | [] => some false
  | c :: r => match one t c with
    | some true => some true
    | some false => isaAny one t r
    | none => none

def exAny (one : XC → Option Bool) : List XC → Option Bool
  | [] => some false
  | c :: r => match one c with
    | some true => some true
    | some false => exAny one r
    | none => none

/-- the receiver's kind -/
def mtTy : Mt → D → Sto → Prop
  | .append, .loc n, S => ∃ xs, lstAt S n = some xs
  | .clear, .loc n, S => ∃ xs, lstAt S n = some xs
  | .insert, .loc n, S => ∃ xs, lstAt S n = some xs
  | .popAt, .loc n, S => ∃ xs, lstAt S n = some xs
  | .extend, .loc n, S => ∃ xs, lstAt S n = some xs
  | .dpop1, .loc n, S => ∃ kvs, S[n]? = some (.dk kvs)
  | .dpop2, .loc n, S => ∃ kvs, S[n]? = some (.dt kvs)
  | .dclear, .loc n, S => ∃ kvs, S[n]? = some (.dk kvs)
  | .dget1, .loc n, S => (∃ kvs, S[n]? = some (.dk kvs)) ∨ ∃ kvs, S[n]? = some (.dt kvs)
  | .dget2, .loc n, S => (∃ kvs, S[n]? = some (.dk kvs)) ∨ ∃ kvs, S[n]? = some (.dt kvs)
  | .upper, .str _, _ => True
  | _, _, _ => False
/-! ### targets -/
def setAll : List Nat → List D → Env → Option Env
  | [], [], ρ => some ρ
  | i :: is, d :: ds, ρ => setAll is ds (ρ.set i (some d))
  | _, _, _ => none
def tgD : Tg → D → Env → (Env → Prop) → Prop
  | .nm i, d, ρ, k => k (ρ.set i (some d))
  | .tp is, .tup ds, ρ, k => ∃ ρ', setAll is ds ρ = some ρ' ∧ k ρ'
  | .tp is, .key ks, ρ, k => ∃ ρ', setAll is (ks.map keyD) ρ = some ρ' ∧ k ρ'
  | _, _, _, _ => False
def Tg.slots : Tg → List Nat
  | .nm i => [i]
  | .tp is => is
def wipeE : Env → List Nat → Env
  | ρ, [] => ρ
  | ρ, v :: vs => (wipeE ρ vs).set v none

/-! ### what stands around: contracts, globals, classes -/
structure Tab where
  ctr : Nat → Ctr
  glob : Nat → D
  mth : Nat → Nat → Option Nat
  init : Nat → Nat
  isa : TyC → Cl → Option Bool
  attr : Nat → Nat → Bool
  dfl : Nat → Nat → List D
  exs : Nat → XC → Option Bool
  mthd : Nat → Nat → Nat → Bool

/-! ### loops -/
def forD (stay : Sto → Prop) (body : D → Env → Sto → Z → Prop) : List D → Env → Sto → Z → Prop
  | [], ρ, S, z => stay S ∧ z.nx ρ S
  | x :: r, ρ, S, z => stay S ∧ body x ρ S { z with nx := fun ρ' S' => forD stay body r ρ' S' z, ct := fun ρ' S' => forD stay body r ρ' S' z, bk := z.nx }
/-- a comprehension's turns: the list made so far stands at n -/
def lcD (n : Nat) (stay : Sto → Prop) (bind : D → (Env → Prop) → Prop) (test : Env → Sto → (Bool → Sto → Prop) → Prop) (elt : Env → Sto → QD → Prop) : List D → Sto → (Sto → Prop) → Prop
  | [], S, k => stay S ∧ k S
  | x :: r, S, k => stay S ∧ bind x fun ρ' => test ρ' S fun b S1 => Br b (elt ρ' S1 fun d S2 => ∃ acc, lstAt S2 n = some acc ∧ acc.length < 16777216 ∧ lcD n stay bind test elt r (setLst S2 n (acc ++ [d])) k) (lcD n stay bind test elt r S1 k)
def stayOf (d : D) (xs : List D) : Sto → Prop := match d with
  | .loc n => fun S => lstAt S n = some xs
  | _ => fun _ => True
def rngD (lo : Int) (n : Nat) : List D := (List.range n).map fun i => .int (lo + (i : Nat))
def enumD : Nat → List D → List D
  | _, [] => []
  | i, x :: r => .tup [.int (i : Nat), x] :: enumD (i + 1) r

/-! ### lists of meanings -/
def andsD : List Den → Den
  | [], _, _, _, _ => False
  | [d], ρ, S, Q, X => d ρ S (fun v S' => ∃ b, v = .bl b ∧ Q (.bl b) S') X
  | d :: r, ρ, S, Q, X => d ρ S (fun v S' => ∃ b, v = .bl b ∧ Br b (andsD r ρ S' Q X) (Q (.bl false) S')) X
def orsD : List Den → Den
  | [], _, _, _, _ => False
  | [d], ρ, S, Q, X => d ρ S (fun v S' => ∃ b, v = .bl b ∧ Q (.bl b) S') X
  | d :: r, ρ, S, Q, X => d ρ S (fun v S' => ∃ b, v = .bl b ∧ Br b (Q (.bl true) S') (orsD r ρ S' Q X)) X
def andsT : List DenT → DenT
  | [], _, S, Q, _ => Q true S
  | d :: r, ρ, S, Q, X => d ρ S (fun b S' => Br b (andsT r ρ S' Q X) (Q false S')) X
def orsT : List DenT → DenT
  | [], _, S, Q, _ => Q false S
  | d :: r, ρ, S, Q, X => d ρ S (fun b S' => Br b (Q true S') (orsT r ρ S' Q X)) X
def chainD : List Cop → List Den → D → Env → Sto → (Bool → Sto → Prop) → XD → Prop
  | [], _, _, _, _, _, _ => False
  | _ :: _, [], _, _, _, _, _ => False
  | [o], d :: _, x, ρ, S, Q, X => d ρ S (fun y S' => copD o x y S' fun b => Q b S') X
  | o :: o' :: os, d :: ds, x, ρ, S, Q, X => d ρ S (fun y S' => copD o x y S' fun b => Br b (chainD (o' :: os) ds y ρ S' Q X) (Q false S')) X
def argsD : List Den → DenA
  | [], _, S, Q, _ => Q [] S
  | d :: r, ρ, S, Q, X => d ρ S (fun v S' => argsD r ρ S' (fun vs S'' => Q (v :: vs) S'') X) X
/-- a part of a slice: [] none, [d] an int -/
def partD : List Den → Env → Sto → (Option Int → Sto → Prop) → XD → Prop
  | [], _, S, Q, _ => Q none S
  | [d], ρ, S, Q, X => d ρ S (fun v S' => ∃ i, v = .int i ∧ Q (some i) S') X
  | _, _, _, _, _ => False
def cutD (xs : List D) (lo hi : Option Int) : List D := (xs.drop (HT.sIx xs.length 0 lo)).take (HT.sIx xs.length xs.length hi - HT.sIx xs.length 0 lo)
def slD : D → Option Int → Option Int → Sto → QD → Prop
  | .tup xs, lo, hi, S, Q => ¬ (HT.sIx xs.length 0 lo = 0 ∧ HT.sIx xs.length xs.length hi = xs.length) ∧ Q (.tup (cutD xs lo hi)) S
  | .rol xs, lo, hi, S, Q => Q (.loc S.length) (S ++ [.lst (cutD xs lo hi)])
  | .loc n, lo, hi, S, Q => ∃ xs, lstAt S n = some xs ∧ Q (.loc S.length) (S ++ [.lst (cutD xs lo hi)])
  | .str x, lo, hi, S, Q => x.length ≤ 16777216 ∧ Q (.str (Txt.slice x lo hi)) S
  | _, _, _, _, _ => False

section
variable (Γ : Tab)
mutual
def den : E → Den
  | .var i, ρ, S, Q, _ => ∃ d, ρ[i]? = some (some d) ∧ Q d S
  | .int k, _, S, Q, _ => Q (.int k) S
  | .bl b, _, S, Q, _ => Q (.bl b) S
  | .str s, _, S, Q, _ => Q (.str s) S
  | .non, _, S, Q, _ => Q .non S
  | .glob g, _, S, Q, _ => Q (Γ.glob g) S
  | .bin op a b, ρ, S, Q, X => den a ρ S (fun x S1 => den b ρ S1 (fun y S2 => binD op x y S2 Q) X) X
  | .neg a, ρ, S, Q, X => den a ρ S (fun x S1 => ∃ i, x = .int i ∧ Q (.int (-i)) S1) X
  | .cmp a ops es, ρ, S, Q, X => den a ρ S (fun x S1 => chainD ops (denA es) x ρ S1 (fun b S2 => Q (.bl b) S2) X) X
  | .ands es, ρ, S, Q, X => andsD (denA es) ρ S Q X
  | .ors es, ρ, S, Q, X => orsD (denA es) ρ S Q X
  | .notv a, ρ, S, Q, X => den a ρ S (fun x S1 => ∃ b, x = .bl b ∧ Q (.bl (!b)) S1) X
  | .ifx t a b, ρ, S, Q, X => denT t ρ S (fun c S1 => Br c (den a ρ S1 Q X) (den b ρ S1 Q X)) X
  | .tup es, ρ, S, Q, X => argsD (denA es) ρ S (fun ds S1 => Q (.tup ds) S1) X
  | .lst es, ρ, S, Q, X => argsD (denA es) ρ S (fun ds S1 => Q (.loc S1.length) (S1 ++ [.lst ds])) X
  | .ix a b, ρ, S, Q, X => den a ρ S (fun x S1 => den b ρ S1 (fun y S2 => ixD x y S2 Q) X) X
  | .sl a lo hi, ρ, S, Q, X => den a ρ S (fun x S1 => partD (denA lo) ρ S1 (fun l S2 => partD (denA hi) ρ S2 (fun h S3 => slD x l h S3 Q) X) X) X
  | .call f es dn, ρ, S, Q, X => argsD (denA es) ρ S (fun ds S1 => Γ.ctr f (ds ++ Γ.dfl f dn) S1 Q X) X
  | .blt b es, ρ, S, Q, X => argsD (denA es) ρ S (fun ds S1 => bltD b ds S1 Q) X
  | .make C es dn, ρ, S, Q, X => argsD (denA es) ρ S (fun ds S1 => Γ.ctr (Γ.init C) (.loc S1.length :: (ds ++ Γ.dfl (Γ.init C) dn)) (S1 ++ [.ins C []]) (fun v S2 => v = .non ∧ Q (.loc S1.length) S2) X) X
  | .meth m o es dn, ρ, S, Q, X => den o ρ S (fun x S1 => ∃ n C fs f, x = .loc n ∧ S1[n]? = some (.ins C fs) ∧ fs.lookup m = none ∧ Γ.mth C m = some f ∧ argsD (denA es) ρ S1 (fun ds S2 => Γ.ctr f (x :: (ds ++ Γ.dfl f dn)) S2 Q X) X) X
  | .bm m o es, ρ, S, Q, X => den o ρ S (fun x S1 => mtTy m x S1 ∧ argsD (denA es) ρ S1 (fun ds S2 => bmD m x ds S2 Q) X) X
  | .isa a cs, ρ, S, Q, X => den a ρ S (fun x S1 => ∃ t b, tyC S1 x = some t ∧ isaAny Γ.isa t cs = some b ∧ Q (.bl b) S1) X
  | .lc e tg it ts, ρ, S, Q, X => denI it ρ S (fun xs stay S1 =>
      lcD S1.length stay (fun x k => tgD tg x (wipeE ρ tg.slots) k) (fun ρ' S2 k => andsT (denTA ts) ρ' S2 k (fun _ _ => False)) (fun ρ' S2 k => den e ρ' S2 k (fun _ _ => False)) xs (S1 ++ [.lst []]) (fun S3 => Q (.loc S1.length) S3)) X
  | .dnew t, _, S, Q, _ => Q (.loc S.length) (S ++ [if t then .dt [] else .dk []])
  | .dlit kvs, _, S, Q, _ => Q (.loc S.length) (S ++ [.dk (litD kvs [])])
  | .key es, ρ, S, Q, X => argsD (denA es) ρ S (fun ds S1 => ∃ ks, keysOf ds = some ks ∧ Q (.key ks) S1) X
  | .dget o i, ρ, S, Q, X => den o ρ S (fun x S1 => den i ρ S1 (fun y S2 => dgD x y S2 fun r => ∃ v, r = some v ∧ Q v S2) X) X
  | .dgetf o i, ρ, S, Q, X => den o ρ S (fun x S1 => den i ρ S1 (fun y S2 => dgfD x y S2 fun r => ∃ v, r = some v ∧ Q v S2) X) X
  | .methd m f o es, ρ, S, Q, X => den o ρ S (fun x S1 => ∃ n C fs, x = .loc n ∧ S1[n]? = some (.ins C fs) ∧ fs.lookup m = none ∧ Γ.mthd C m f = true ∧ argsD (denA es) ρ S1 (fun ds S2 => Γ.ctr f (x :: (ds ++ Γ.dfl f 0)) S2 Q X) X) X
  | .callX f i, ρ, S, Q, _ => ∃ k, ρ[i]? = some (some (.exc k)) ∧ Γ.ctr f [.exc k] S Q (fun _ _ => False)
  | .make0 C, _, S, Q, _ => Q (.loc S.length) (S ++ [.ins C []])
  | .isaX i cs, ρ, S, Q, _ => ∃ k b, ρ[i]? = some (some (.exc k)) ∧ exAny (Γ.exs k) cs = some b ∧ Q (.bl b) S
  | .fld a f, ρ, S, Q, X => den a ρ S (fun x S1 => ∃ n C fs v, x = .loc n ∧ S1[n]? = some (.ins C fs) ∧ fs.lookup f = some v ∧ Q v S1) X
def denA : As → List Den
  | .nil => []
  | .cons e r => den e :: denA r
def denT : T → DenT
  | .tr e, ρ, S, Q, X => den e ρ S (fun x S1 => truD x S1 fun b => Q b S1) X
  | .cmp a ops es, ρ, S, Q, X => den a ρ S (fun x S1 => chainD ops (denA es) x ρ S1 Q X) X
  | .ands ts, ρ, S, Q, X => andsT (denTA ts) ρ S Q X
  | .ors ts, ρ, S, Q, X => orsT (denTA ts) ρ S Q X
  | .nott t, ρ, S, Q, X => denT t ρ S (fun b S1 => Q (!b) S1) X
def denTA : Ts → List DenT
  | .nil => []
  | .cons t r => denT t :: denTA r
def denI : It → Env → Sto → (List D → (Sto → Prop) → Sto → Prop) → XD → Prop
  | .over e, ρ, S, R, X => den e ρ S (fun x S1 => ∃ xs, itemsOf S1 x = some xs ∧ R xs (stayOf x xs) S1) X
  | .rng1 e, ρ, S, R, X => den e ρ S (fun x S1 => ∃ n, x = .int n ∧ (-(2 ^ 62) ≤ n ∧ n < 2 ^ 62) ∧ R (rngD 0 n.toNat) (fun _ => True) S1) X
  | .rng2 a b, ρ, S, R, X => den a ρ S (fun x S1 => den b ρ S1 (fun y S2 => ∃ i j, x = .int i ∧ y = .int j ∧ (-(2 ^ 62) ≤ i ∧ i < 2 ^ 62 ∧ -(2 ^ 62) ≤ j ∧ j < 2 ^ 62) ∧ R (rngD i (j - i).toNat) (fun _ => True) S2) X) X
  | .enum e, ρ, S, R, X => den e ρ S (fun x S1 => ∃ n xs, x = .loc n ∧ lstAt S1 n = some xs ∧ R (enumD 0 xs) (stayOf x xs) S1) X
  | .keys e, ρ, S, R, X => den e ρ S (fun x S1 => ∃ (n : Nat) (kvs : List (L2.Key × D)), x = .loc n ∧ S1[n]? = some (.fk kvs) ∧ R (kvs.map fun p => keyD p.1) (fun S => S[n]? = some (.fk kvs)) S1) X
  | .items e, ρ, S, R, X => den e ρ S (fun x S1 => ∃ (n : Nat) (kvs : List (List L2.Key × D)), x = .loc n ∧ S1[n]? = some (.ft kvs) ∧ R (kvs.map fun p => .tup [.key p.1, p.2]) (fun S => S[n]? = some (.ft kvs)) S1) X
end
def putN (f : Nat) (v : D) : List (Nat × D) → List (Nat × D)
  | [] => [(f, v)]
  | (g, x) :: r => if g = f then (g, v) :: r else (g, x) :: putN f v r
mutual
def denS : Sm → DenS
  | .set i e, ρ, S, z => den Γ e ρ S (fun d S1 => z.nx (ρ.set i (some d)) S1) (fun c S1 => z.ex c ρ S1)
  | .setg tg e, ρ, S, z => den Γ e ρ S (fun d S1 => tgD tg d ρ fun ρ' => z.nx ρ' S1) (fun c S1 => z.ex c ρ S1)
  | .par i j a b, ρ, S, z => den Γ a ρ S (fun x S1 => den Γ b ρ S1 (fun y S2 => z.nx ((ρ.set i (some x)).set j (some y)) S2) (fun c S1 => z.ex c ρ S1)) (fun c S1 => z.ex c ρ S1)
  | .aug i op e, ρ, S, z => ∃ x, ρ[i]? = some (some (.int x)) ∧ den Γ e ρ S (fun y S1 => ∃ j, y = .int j ∧ (op = .add ∨ op = .sub) ∧ intOp op x j fun k => z.nx (ρ.set i (some (.int k))) S1) (fun c S1 => z.ex c ρ S1)
  | .fset o f e, ρ, S, z => den Γ e ρ S (fun v S1 => den Γ o ρ S1 (fun x S2 => ∃ n C fs, x = .loc n ∧ S2[n]? = some (.ins C fs) ∧ Γ.attr C f = true ∧ fs.length < 1000 ∧ z.nx ρ (S2.set n (.ins C (putN f v fs)))) (fun c S1 => z.ex c ρ S1)) (fun c S1 => z.ex c ρ S1)
  | .faug o f op e, ρ, S, z => den Γ o ρ S (fun x S1 => ∃ n C fs i, x = .loc n ∧ S1[n]? = some (.ins C fs) ∧ fs.lookup f = some (.int i) ∧ den Γ e ρ S1 (fun y S2 => ∃ j, y = .int j ∧ (op = .add ∨ op = .sub) ∧ intOp op i j fun k => ∃ fs', S2[n]? = some (.ins C fs') ∧ fs'.length < 1000 ∧ z.nx ρ (S2.set n (.ins C (putN f (.int k) fs')))) (fun c S1 => z.ex c ρ S1)) (fun c S1 => z.ex c ρ S1)
  | .iset o i e, ρ, S, z => den Γ e ρ S (fun v S1 => den Γ o ρ S1 (fun x S2 => den Γ i ρ S2 (fun y S3 => ∃ n xs k j, x = .loc n ∧ y = .int k ∧ lstAt S3 n = some xs ∧ ixN xs.length k = some j ∧ z.nx ρ (setLst S3 n (xs.set j v))) (fun c S1 => z.ex c ρ S1)) (fun c S1 => z.ex c ρ S1)) (fun c S1 => z.ex c ρ S1)
  | .dset o i e, ρ, S, z => den Γ e ρ S (fun v S1 => den Γ o ρ S1 (fun x S2 => den Γ i ρ S2 (fun y S3 => dpD x y v S3 fun S4 => z.nx ρ S4) (fun c S1 => z.ex c ρ S1)) (fun c S1 => z.ex c ρ S1)) (fun c S1 => z.ex c ρ S1)
  | .daug o i op e, ρ, S, z => den Γ o ρ S (fun x S1 => den Γ i ρ S1 (fun y S2 => dgD x y S2 fun r => ∃ a, r = some (.int a) ∧ den Γ e ρ S2 (fun w S3 => ∃ j, w = .int j ∧ (op = .add ∨ op = .sub) ∧ intOp op a j fun k => dpD x y (.int k) S3 fun S4 => z.nx ρ S4) (fun c S1 => z.ex c ρ S1)) (fun c S1 => z.ex c ρ S1)) (fun c S1 => z.ex c ρ S1)
  | .expr e, ρ, S, z => den Γ e ρ S (fun _ S1 => z.nx ρ S1) (fun c S1 => z.ex c ρ S1)
  | .ret e, ρ, S, z => den Γ e ρ S z.rt (fun c S1 => z.ex c ρ S1)
  | .retN, _, S, z => z.rt .non S
  | .ife t a b, ρ, S, z => denT Γ t ρ S (fun c S1 => Br c (denB a ρ S1 z) (denB b ρ S1 z)) (fun c S1 => z.ex c ρ S1)
  | .whil t b, ρ, S, z => ∃ W : Nat → Env → Sto → Prop, (∃ m, W m ρ S) ∧ ∀ m ρ S, W m ρ S → denT Γ t ρ S (fun c S1 =>
      Br c (denB b ρ S1 { z with nx := fun ρ' S' => ∃ m', m' < m ∧ W m' ρ' S', ct := fun ρ' S' => ∃ m', m' < m ∧ W m' ρ' S', bk := z.nx }) (z.nx ρ S1)) (fun c S1 => z.ex c ρ S1)
  | .for_ tg it b, ρ, S, z => denI Γ it ρ S (fun xs stay S1 => forD stay (fun x ρ S z => tgD tg x ρ fun ρ' => denB b ρ' S z) xs ρ S1 z) (fun c S1 => z.ex c ρ S1)
  | .brk, ρ, S, z => z.bk ρ S
  | .cont, ρ, S, z => z.ct ρ S
  | .pass, ρ, S, z => z.nx ρ S
  | .raise c, ρ, S, z => z.ex c ρ S
  | .lock s, ρ, S, z => ∃ n o u, frzO o = some u ∧ S[n]? = some o ∧ denS s ρ (S.set n u) (lockZ n u o z)
  | .tryx b C sl h, ρ, S, z => denB b ρ S { z with ex := fun k ρ' S' => ∃ y, Γ.exs k (.own C) = some y ∧ Br y (match sl with
      | some i => denB h (ρ'.set i (some (.exc k))) S' { nx := fun r s => z.nx (r.set i none) s, rt := z.rt, bk := fun r s => z.bk (r.set i none) s, ct := fun r s => z.ct (r.set i none) s, ex := fun _ _ _ => False }
      | none => denB h ρ' S' { z with ex := fun _ _ _ => False }) (z.ex k ρ' S') }
def denB : Bl → DenS
  | .nil, ρ, S, z => z.nx ρ S
  | .cons s r, ρ, S, z => denS s ρ S { z with nx := fun ρ' S' => denB r ρ' S' z }
end
end
end Wp

/-! monotone -/
namespace Wp
open PySem L2
def MonC (c : Ctr) : Prop := ∀ ds S Q Q' X X', (∀ d S, Q d S → Q' d S) → (∀ e S, X e S → X' e S) → c ds S Q X → c ds S Q' X'
def MonD (d : Den) : Prop := ∀ ρ S Q Q' X X', (∀ d S, Q d S → Q' d S) → (∀ e S, X e S → X' e S) → d ρ S Q X → d ρ S Q' X'
def MonT (d : DenT) : Prop := ∀ ρ S Q Q' X X', (∀ d S, Q d S → Q' d S) → (∀ e S, X e S → X' e S) → d ρ S Q X → d ρ S Q' X'
def MonK (f : (Bool → Prop) → Prop) : Prop := ∀ k k' : Bool → Prop, (∀ b, k b → k' b) → f k → f k'
theorem Br.mono {b : Bool} {P Q P' Q' : Prop} (h : Br b P Q) (p : P → P') (q : Q → Q') : Br b P' Q' := ⟨fun e => p (h.1 e), fun e => q (h.2 e)⟩
theorem intOp_mono {op : Op} {i j : Int} {k k' : Int → Prop} (h : ∀ x, k x → k' x) : intOp op i j k → intOp op i j k' := by
  cases op <;> simp only [intOp] <;> intro q
  · exact h _ q
  · exact h _ q
  · exact ⟨q.1, h _ q.2⟩
  · exact ⟨q.1, h _ q.2⟩
  · exact ⟨q.1, h _ q.2⟩
  · exact ⟨q.1, h _ q.2⟩
theorem binD_mono {op : Op} {x y : D} {S : Sto} {Q Q' : QD} (h : ∀ d S, Q d S → Q' d S) : binD op x y S Q → binD op x y S Q' := by
  unfold binD
  split <;> intro q
  · exact intOp_mono (fun z w => h _ _ w) q
  · exact ⟨q.1, h _ _ q.2⟩
  · exact ⟨q.1, q.2.1, h _ _ q.2.2⟩
  · obtain ⟨xs, ys, a, b, c, q⟩ := q
    exact ⟨xs, ys, a, b, c, h _ _ q⟩
  · exact q
theorem dgD_mono {x y : D} {S : Sto} {R R' : Option D → Prop} (h : ∀ r, R r → R' r) : dgD x y S R → dgD x y S R' := by
  unfold dgD
  split <;> intro q
  all_goals first
    | (obtain ⟨kvs, a, q⟩ := q; exact ⟨kvs, a, h _ q⟩)
    | exact q
theorem dgfD_mono {x y : D} {S : Sto} {R R' : Option D → Prop} (h : ∀ r, R r → R' r) : dgfD x y S R → dgfD x y S R' := by
  unfold dgfD
  split <;> intro q
  all_goals first
    | (obtain ⟨kvs, a, q⟩ := q; exact ⟨kvs, a, h _ q⟩)
    | exact q
theorem dpD_mono {x y v : D} {S : Sto} {R R' : Sto → Prop} (h : ∀ r, R r → R' r) : dpD x y v S R → dpD x y v S R' := by
  unfold dpD
  split <;> intro q
  all_goals first
    | (obtain ⟨kvs, a, b, q⟩ := q; exact ⟨kvs, a, b, h _ q⟩)
    | exact q
theorem eqD_mono {x y : D} {S : Sto} : MonK (eqD x y S) := fun k k' h => by
  unfold eqD
  split <;> intro q
  · exact h _ q
  · obtain ⟨g, d, e, a, b, c, f, q⟩ := q
    exact ⟨g, d, e, a, b, c, f, h _ q⟩
theorem inD_mono {x y : D} {S : Sto} : MonK (inD x y S) := fun k k' h => by
  unfold inD
  split
  · split <;> intro q
    · obtain ⟨f, d, ds, a, b, c, e, q⟩ := q
      exact ⟨f, d, ds, a, b, c, e, h _ q⟩
    · exact dgD_mono (fun _ z => h _ z) q
    · exact dgD_mono (fun _ z => h _ z) q
    · exact q
  · intro q
    obtain ⟨i, is, a, b, q⟩ := q
    exact ⟨i, is, a, b, h _ q⟩
  · exact fun q => q
theorem copD_mono {o : Cop} {x y : D} {S : Sto} : MonK (copD o x y S) := fun k k' h => by
  unfold copD
  split <;> intro q
  all_goals first
    | exact h _ q
    | exact ⟨q.1, h _ q.2⟩
    | exact eqD_mono _ _ (fun b z => h _ z) q
    | exact inD_mono _ _ (fun b z => h _ z) q
    | exact q
theorem truD_mono {x : D} {S : Sto} : MonK (truD x S) := fun k k' h => by
  unfold truD
  split <;> intro q
  all_goals first
    | exact h _ q
    | (obtain ⟨xs, a, q⟩ := q; exact ⟨xs, a, h _ q⟩)
    | exact q
theorem ixD_mono {x y : D} {S : Sto} {Q Q' : QD} (h : ∀ d S, Q d S → Q' d S) : ixD x y S Q → ixD x y S Q' := by
  unfold ixD
  split <;> intro q
  · obtain ⟨v, a, q⟩ := q
    exact ⟨v, a, h _ _ q⟩
  · obtain ⟨v, a, q⟩ := q
    exact ⟨v, a, h _ _ q⟩
  · obtain ⟨xs, v, a, b, q⟩ := q
    exact ⟨xs, v, a, b, h _ _ q⟩
  · obtain ⟨v, a, q⟩ := q
    exact ⟨v, a, h _ _ q⟩
  · exact q
theorem bltD_mono {b : Blt} {ds : List D} {S : Sto} {Q Q' : QD} (h : ∀ d S, Q d S → Q' d S) : bltD b ds S Q → bltD b ds S Q' := by
  unfold bltD
  split <;> intro q
  all_goals first
    | exact h _ _ q
    | (obtain ⟨kvs, is, a, c, q⟩ := q; exact ⟨kvs, is, a, c, fun ys p1 p2 => h _ _ (q ys p1 p2)⟩)
    | (rcases q with ⟨kvs, a, q⟩ | ⟨kvs, a, c, q⟩; exact .inl ⟨kvs, a, h _ _ q⟩; exact .inr ⟨kvs, a, c, h _ _ q⟩)
    | (obtain ⟨xs, a, q⟩ := q; exact ⟨xs, a, h _ _ q⟩)
    | (obtain ⟨xs, a, c, q⟩ := q; exact ⟨xs, a, c, h _ _ q⟩)
    | (obtain ⟨xs, bs, a, c, q⟩ := q; exact ⟨xs, bs, a, c, h _ _ q⟩)
    | (obtain ⟨a, c, q⟩ := q; exact ⟨a, c, h _ _ q⟩)
    | (obtain ⟨a, q⟩ := q; exact ⟨a, h _ _ q⟩)
    | exact q
theorem bmD_mono {b : Mt} {x : D} {ds : List D} {S : Sto} {Q Q' : QD} (h : ∀ d S, Q d S → Q' d S) : bmD b x ds S Q → bmD b x ds S Q' := by
  unfold bmD
  split <;> intro q
  all_goals first
    | exact dgD_mono (fun _ z => h _ _ z) q
    | (obtain ⟨kvs, a, q1, q2⟩ := q; exact ⟨kvs, a, fun v hv => h _ _ (q1 v hv), fun hv => h _ _ (q2 hv)⟩)
    | (obtain ⟨xs, a, c, q⟩ := q; exact ⟨xs, a, c, h _ _ q⟩)
    | (obtain ⟨xs, v, a, c, q⟩ := q; exact ⟨xs, v, a, c, h _ _ q⟩)
    | (obtain ⟨xs, a, q⟩ := q; exact ⟨xs, a, h _ _ q⟩)
    | exact ⟨q.1, h _ _ q.2⟩
    | exact q
theorem slD_mono {x : D} {lo hi : Option Int} {S : Sto} {Q Q' : QD} (h : ∀ d S, Q d S → Q' d S) : slD x lo hi S Q → slD x lo hi S Q' := by
  unfold slD
  split <;> intro q
  · exact ⟨q.1, h _ _ q.2⟩
  · exact h _ _ q
  · obtain ⟨xs, a, q⟩ := q
    exact ⟨xs, a, h _ _ q⟩
  · exact ⟨q.1, h _ _ q.2⟩
  · exact q
theorem tgD_mono {tg : Tg} {d : D} {ρ : Env} {k k' : Env → Prop} (h : ∀ ρ, k ρ → k' ρ) : tgD tg d ρ k → tgD tg d ρ k' := by
  unfold tgD
  split <;> intro q
  · exact h _ q
  · obtain ⟨r, a, q⟩ := q
    exact ⟨r, a, h _ q⟩
  · obtain ⟨r, a, q⟩ := q
    exact ⟨r, a, h _ q⟩
  · exact q
theorem lcD_mono {n : Nat} {stay : Sto → Prop} {bind : D → (Env → Prop) → Prop} {test : Env → Sto → (Bool → Sto → Prop) → Prop} {elt : Env → Sto → QD → Prop} (hb : ∀ x (Q Q' : Env → Prop), (∀ ρ, Q ρ → Q' ρ) → bind x Q → bind x Q')
    (ht : ∀ ρ S Q Q', (∀ b S, Q b S → Q' b S) → test ρ S Q → test ρ S Q') (he : ∀ ρ S Q Q', (∀ b S, Q b S → Q' b S) → elt ρ S Q → elt ρ S Q') :
    ∀ (xs : List D) (S : Sto) (k k' : Sto → Prop), (∀ S, k S → k' S) → lcD n stay bind test elt xs S k → lcD n stay bind test elt xs S k'
  | [], S, k, k', h, q => ⟨q.1, h _ q.2⟩
  | x :: r, S, k, k', h, q => by
    refine ⟨q.1, hb x _ _ (fun ρ q => ht ρ S _ _ (fun b S1 z => z.mono (fun z => he ρ S1 _ _ (fun d S2 w => ?_) z) fun z => lcD_mono hb ht he r S1 k k' h z) q) q.2⟩
    obtain ⟨acc, a, b, w⟩ := w
    exact ⟨acc, a, b, lcD_mono hb ht he r _ k k' h w⟩
theorem andsD_mono : ∀ {l : List Den}, (∀ d ∈ l, MonD d) → MonD (andsD l)
  | [], _ => fun _ _ _ _ _ _ _ _ q => q
  | [d], h => fun ρ S Q Q' X X' hq hx q => h d (by simp) ρ S _ _ X X' (fun v S' ⟨b, e, z⟩ => ⟨b, e, hq _ _ z⟩) hx q
  | d :: e :: r, h => fun ρ S Q Q' X X' hq hx q => h d (by simp) ρ S _ _ X X' (fun v S' ⟨b, e, z⟩ => ⟨b, e, z.mono (fun z => andsD_mono (l := _ :: r) (fun d hd => h d (List.mem_cons_of_mem _ hd)) ρ S' Q Q' X X' hq hx z) fun z => hq _ _ z⟩) hx q
theorem orsD_mono : ∀ {l : List Den}, (∀ d ∈ l, MonD d) → MonD (orsD l)
  | [], _ => fun _ _ _ _ _ _ _ _ q => q
  | [d], h => fun ρ S Q Q' X X' hq hx q => h d (by simp) ρ S _ _ X X' (fun v S' ⟨b, e, z⟩ => ⟨b, e, hq _ _ z⟩) hx q
  | d :: e :: r, h => fun ρ S Q Q' X X' hq hx q => h d (by simp) ρ S _ _ X X' (fun v S' ⟨b, e, z⟩ => ⟨b, e, z.mono (fun z => hq _ _ z) fun z => orsD_mono (l := _ :: r) (fun d hd => h d (List.mem_cons_of_mem _ hd)) ρ S' Q Q' X X' hq hx z⟩) hx q
theorem andsT_mono : ∀ {l : List DenT}, (∀ d ∈ l, MonT d) → MonT (andsT l)
  | [], _ => fun _ _ _ _ _ _ hq _ q => hq _ _ q
  | d :: r, h => fun ρ S Q Q' X X' hq hx q => h d (by simp) ρ S _ _ X X' (fun v S' z => z.mono (fun z => andsT_mono (l := r) (fun d hd => h d (List.mem_cons_of_mem _ hd)) ρ S' Q Q' X X' hq hx z) fun z => hq _ _ z) hx q
theorem orsT_mono : ∀ {l : List DenT}, (∀ d ∈ l, MonT d) → MonT (orsT l)
  | [], _ => fun _ _ _ _ _ _ hq _ q => hq _ _ q
  | d :: r, h => fun ρ S Q Q' X X' hq hx q => h d (by simp) ρ S _ _ X X' (fun v S' z => z.mono (fun z => hq _ _ z) fun z => orsT_mono (l := r) (fun d hd => h d (List.mem_cons_of_mem _ hd)) ρ S' Q Q' X X' hq hx z) hx q
theorem chainD_mono : ∀ {os : List Cop} {l : List Den}, (∀ d ∈ l, MonD d) → ∀ x ρ S (Q Q' : Bool → Sto → Prop) (X X' : XD), (∀ d S, Q d S → Q' d S) → (∀ e S, X e S → X' e S) → chainD os l x ρ S Q X → chainD os l x ρ S Q' X'
  | [], l, _ => fun _ _ _ _ _ _ _ _ _ q => q.elim
  | _ :: _, [], _ => fun _ _ _ _ _ _ _ _ _ q => q.elim
  | [o], d :: _, h => fun x ρ S Q Q' X X' hq hx q => h d (by simp) ρ S _ _ X X' (fun y S' z => copD_mono _ _ (fun b w => hq _ _ w) z) hx q
  | o :: o' :: os, d :: r, h => fun x ρ S Q Q' X X' hq hx q => h d (by simp) ρ S _ _ X X' (fun y S' z => copD_mono _ _ (fun b w => w.mono (fun w => chainD_mono (os := o' :: os) (l := r) (fun d hd => h d (List.mem_cons_of_mem _ hd)) y ρ S' Q Q' X X' hq hx w) fun w => hq _ _ w) z) hx q
theorem argsD_mono : ∀ {l : List Den}, (∀ d ∈ l, MonD d) → ∀ ρ S (Q Q' : List D → Sto → Prop) (X X' : XD), (∀ d S, Q d S → Q' d S) → (∀ e S, X e S → X' e S) → argsD l ρ S Q X → argsD l ρ S Q' X'
  | [], _ => fun _ _ _ _ _ _ hq _ q => hq _ _ q
  | d :: r, h => fun ρ S Q Q' X X' hq hx q => h d (by simp) ρ S _ _ X X' (fun v S' z => argsD_mono (l := r) (fun d hd => h d (List.mem_cons_of_mem _ hd)) ρ S' _ _ X X' (fun _ _ w => hq _ _ w) hx z) hx q
theorem partD_mono : ∀ {l : List Den}, (∀ d ∈ l, MonD d) → ∀ ρ S (Q Q' : Option Int → Sto → Prop) (X X' : XD), (∀ d S, Q d S → Q' d S) → (∀ e S, X e S → X' e S) → partD l ρ S Q X → partD l ρ S Q' X'
  | [], _ => fun _ _ _ _ _ _ hq _ q => hq _ _ q
  | [d], h => fun ρ S Q Q' X X' hq hx q => h d (by simp) ρ S _ _ X X' (fun v S' ⟨i, e, z⟩ => ⟨i, e, hq _ _ z⟩) hx q
  | _ :: _ :: _, h => fun _ _ _ _ _ _ _ _ q => q.elim
structure Tab.Mono (Γ : Tab) : Prop where
  ctr : ∀ f, MonC (Γ.ctr f)
section
variable {Γ : Tab} (hΓ : Γ.Mono)
def MonI (f : Env → Sto → (List D → (Sto → Prop) → Sto → Prop) → XD → Prop) : Prop := ∀ ρ S R R' X X', (∀ l s S, R l s S → R' l s S) → (∀ e S, X e S → X' e S) → f ρ S R X → f ρ S R' X'
include hΓ in
mutual
theorem den_mono : ∀ e : E, MonD (den Γ e)
  | .var i => fun ρ S Q Q' X X' hq hx ⟨d, a, q⟩ => ⟨d, a, hq _ _ q⟩
  | .int k => fun ρ S Q Q' X X' hq hx q => hq _ _ q
  | .bl b => fun ρ S Q Q' X X' hq hx q => hq _ _ q
  | .str s => fun ρ S Q Q' X X' hq hx q => hq _ _ q
  | .non => fun ρ S Q Q' X X' hq hx q => hq _ _ q
  | .glob g => fun ρ S Q Q' X X' hq hx q => hq _ _ q
  | .bin op a b => fun ρ S Q Q' X X' hq hx q => den_mono a ρ S _ _ X X' (fun x S1 q => den_mono b ρ S1 _ _ X X' (fun y S2 q => binD_mono hq q) hx q) hx q
  | .neg a => fun ρ S Q Q' X X' hq hx q => den_mono a ρ S _ _ X X' (fun x S1 ⟨i, e, q⟩ => ⟨i, e, hq _ _ q⟩) hx q
  | .cmp a ops es => fun ρ S Q Q' X X' hq hx q => den_mono a ρ S _ _ X X' (fun x S1 q => chainD_mono (denA_mono es) _ _ _ _ _ _ _ (fun _ _ z => hq _ _ z) hx q) hx q
  | .ands es => fun ρ S Q Q' X X' hq hx q => andsD_mono (denA_mono es) ρ S Q Q' X X' hq hx q
  | .ors es => fun ρ S Q Q' X X' hq hx q => orsD_mono (denA_mono es) ρ S Q Q' X X' hq hx q
  | .notv a => fun ρ S Q Q' X X' hq hx q => den_mono a ρ S _ _ X X' (fun x S1 ⟨i, e, q⟩ => ⟨i, e, hq _ _ q⟩) hx q
  | .ifx t a b => fun ρ S Q Q' X X' hq hx q => denT_mono t ρ S _ _ X X' (fun c S1 z => z.mono (fun q => den_mono a ρ S1 _ _ X X' hq hx q) fun q => den_mono b ρ S1 _ _ X X' hq hx q) hx q
  | .tup es => fun ρ S Q Q' X X' hq hx q => argsD_mono (denA_mono es) _ _ _ _ _ _ (fun _ _ z => hq _ _ z) hx q
  | .lst es => fun ρ S Q Q' X X' hq hx q => argsD_mono (denA_mono es) _ _ _ _ _ _ (fun _ _ z => hq _ _ z) hx q
  | .ix a b => fun ρ S Q Q' X X' hq hx q => den_mono a ρ S _ _ X X' (fun x S1 q => den_mono b ρ S1 _ _ X X' (fun y S2 q => ixD_mono hq q) hx q) hx q
  | .sl a lo hi => fun ρ S Q Q' X X' hq hx q => den_mono a ρ S _ _ X X' (fun x S1 q => partD_mono (denA_mono lo) _ _ _ _ _ _ (fun l S2 q => partD_mono (denA_mono hi) _ _ _ _ _ _ (fun h S3 q => slD_mono hq q) hx q) hx q) hx q
  | .call f es dn => fun ρ S Q Q' X X' hq hx q => argsD_mono (denA_mono es) _ _ _ _ _ _ (fun ds S1 z => hΓ.ctr f _ S1 _ _ X X' hq hx z) hx q
  | .blt b es => fun ρ S Q Q' X X' hq hx q => argsD_mono (denA_mono es) _ _ _ _ _ _ (fun ds S1 z => bltD_mono hq z) hx q
  | .make C es dn => fun ρ S Q Q' X X' hq hx q => argsD_mono (denA_mono es) _ _ _ _ _ _ (fun ds S1 z => hΓ.ctr _ _ _ _ _ X X' (fun v S2 z => ⟨z.1, hq _ _ z.2⟩) hx z) hx q
  | .meth m o es dn => fun ρ S Q Q' X X' hq hx q => den_mono o ρ S _ _ X X' (fun x S1 ⟨n, C, fs, f, e1, e2, e3, e4, q⟩ => ⟨n, C, fs, f, e1, e2, e3, e4, argsD_mono (denA_mono es) _ _ _ _ _ _ (fun ds S1 z => hΓ.ctr f _ S1 _ _ X X' hq hx z) hx q⟩) hx q
  | .bm m o es => fun ρ S Q Q' X X' hq hx q => den_mono o ρ S _ _ X X' (fun x S1 q => ⟨q.1, argsD_mono (denA_mono es) _ _ _ _ _ _ (fun ds S1 z => bmD_mono hq z) hx q.2⟩) hx q
  | .isa a cs => fun ρ S Q Q' X X' hq hx q => den_mono a ρ S _ _ X X' (fun x S1 ⟨t, i, e, e2, q⟩ => ⟨t, i, e, e2, hq _ _ q⟩) hx q
  | .lc e tg it ts => fun ρ S Q Q' X X' hq hx q => denI_mono it ρ S _ _ X X' (fun xs stay S1 q => lcD_mono (bind := fun x k => tgD tg x (wipeE ρ tg.slots) k) (test := fun ρ' S2 k => andsT (denTA Γ ts) ρ' S2 k (fun _ _ => False)) (elt := fun ρ' S2 k => den Γ e ρ' S2 k (fun _ _ => False))
      (fun x Q Q' h q => tgD_mono h q) (fun ρ' S Q Q' h q => andsT_mono (denTA_mono ts) ρ' S _ _ _ _ h (fun _ _ z => z) q)
      (fun ρ' S Q Q' h q => den_mono e ρ' S _ _ _ _ h (fun _ _ z => z) q) xs _ _ _ (fun S3 z => hq _ _ z) q) hx q
  | .callX f i => fun ρ S Q Q' X X' hq hx ⟨k, e, q⟩ => ⟨k, e, hΓ.ctr f _ S _ _ _ _ hq (fun _ _ z => z) q⟩
  | .make0 C => fun ρ S Q Q' X X' hq hx q => hq _ _ q
  | .dnew t => fun ρ S Q Q' X X' hq hx q => hq _ _ q
  | .dlit kvs => fun ρ S Q Q' X X' hq hx q => hq _ _ q
  | .key es => fun ρ S Q Q' X X' hq hx q => argsD_mono (denA_mono es) _ _ _ _ _ _ (fun _ _ ⟨ks, e, z⟩ => ⟨ks, e, hq _ _ z⟩) hx q
  | .dget o i => fun ρ S Q Q' X X' hq hx q => den_mono o ρ S _ _ X X' (fun x S1 q => den_mono i ρ S1 _ _ X X' (fun y S2 q => dgD_mono (fun r ⟨v, e, z⟩ => ⟨v, e, hq _ _ z⟩) q) hx q) hx q
  | .dgetf o i => fun ρ S Q Q' X X' hq hx q => den_mono o ρ S _ _ X X' (fun x S1 q => den_mono i ρ S1 _ _ X X' (fun y S2 q => dgfD_mono (fun r ⟨v, e, z⟩ => ⟨v, e, hq _ _ z⟩) q) hx q) hx q
  | .methd m f o es => fun ρ S Q Q' X X' hq hx q => den_mono o ρ S _ _ X X' (fun x S1 ⟨n, C, fs, e1, e2, e3, e4, q⟩ => ⟨n, C, fs, e1, e2, e3, e4, argsD_mono (denA_mono es) _ _ _ _ _ _ (fun ds S1 z => hΓ.ctr f _ S1 _ _ X X' hq hx z) hx q⟩) hx q
  | .isaX i cs => fun ρ S Q Q' X X' hq hx ⟨k, b, e1, e2, q⟩ => ⟨k, b, e1, e2, hq _ _ q⟩
  | .fld a f => fun ρ S Q Q' X X' hq hx q => den_mono a ρ S _ _ X X' (fun x S1 ⟨n, C, fs, v, e1, e2, e3, q⟩ => ⟨n, C, fs, v, e1, e2, e3, hq _ _ q⟩) hx q
theorem denA_mono : ∀ es : As, ∀ d ∈ denA Γ es, MonD d
  | .nil => fun d h => absurd h (by simp [denA])
  | .cons e r => fun d h => by
    rcases List.mem_cons.mp h with h | h
    · rw [h]
      exact den_mono e
    · exact denA_mono r d h
theorem denT_mono : ∀ t : T, MonT (denT Γ t)
  | .tr e => fun ρ S Q Q' X X' hq hx q => den_mono e ρ S _ _ X X' (fun x S1 q => truD_mono _ _ (fun _ z => hq _ _ z) q) hx q
  | .cmp a ops es => fun ρ S Q Q' X X' hq hx q => den_mono a ρ S _ _ X X' (fun x S1 q => chainD_mono (denA_mono es) _ _ _ _ _ _ _ (fun _ _ z => hq _ _ z) hx q) hx q
  | .ands ts => fun ρ S Q Q' X X' hq hx q => andsT_mono (denTA_mono ts) ρ S Q Q' X X' hq hx q
  | .ors ts => fun ρ S Q Q' X X' hq hx q => orsT_mono (denTA_mono ts) ρ S Q Q' X X' hq hx q
  | .nott t => fun ρ S Q Q' X X' hq hx q => denT_mono t ρ S _ _ X X' (fun b S1 z => hq _ _ z) hx q
theorem denTA_mono : ∀ ts : Ts, ∀ d ∈ denTA Γ ts, MonT d
  | .nil => fun d h => absurd h (by simp [denTA])
  | .cons e r => fun d h => by
    rcases List.mem_cons.mp h with h | h
    · rw [h]
      exact denT_mono e
    · exact denTA_mono r d h
theorem denI_mono : ∀ it : It, MonI (denI Γ it)
  | .over e => fun ρ S R R' X X' hr hx q => den_mono e ρ S _ _ X X' (fun x S1 ⟨xs, a, q⟩ => ⟨xs, a, hr _ _ _ q⟩) hx q
  | .rng1 e => fun ρ S R R' X X' hr hx q => den_mono e ρ S _ _ X X' (fun x S1 ⟨n, a, b, q⟩ => ⟨n, a, b, hr _ _ _ q⟩) hx q
  | .rng2 a b => fun ρ S R R' X X' hr hx q => den_mono a ρ S _ _ X X' (fun x S1 q => den_mono b ρ S1 _ _ X X' (fun y S2 ⟨i, j, e1, e2, c, q⟩ => ⟨i, j, e1, e2, c, hr _ _ _ q⟩) hx q) hx q
  | .enum e => fun ρ S R R' X X' hr hx q => den_mono e ρ S _ _ X X' (fun x S1 ⟨n, xs, a, b, q⟩ => ⟨n, xs, a, b, hr _ _ _ q⟩) hx q
  | .items e => fun ρ S R R' X X' hr hx q => den_mono e ρ S _ _ X X' (fun x S1 ⟨n, xs, a, b, q⟩ => ⟨n, xs, a, b, hr _ _ _ q⟩) hx q
  | .keys e => fun ρ S R R' X X' hr hx q => den_mono e ρ S _ _ X X' (fun x S1 ⟨n, xs, a, b, q⟩ => ⟨n, xs, a, b, hr _ _ _ q⟩) hx q
end
end
/-- a statement's ends -/
structure Z.Le (z z' : Z) : Prop where
  nx : ∀ ρ S, z.nx ρ S → z'.nx ρ S
  rt : ∀ d S, z.rt d S → z'.rt d S
  bk : ∀ ρ S, z.bk ρ S → z'.bk ρ S
  ct : ∀ ρ S, z.ct ρ S → z'.ct ρ S
  ex : ∀ c ρ S, z.ex c ρ S → z'.ex c ρ S
theorem Z.Le.turn {z z' : Z} (h : Z.Le z z') (n c : Env → Sto → Prop) : Z.Le { z with nx := n, ct := c, bk := z.nx } { z' with nx := n, ct := c, bk := z'.nx } := ⟨fun _ _ u => u, h.rt, h.nx, fun _ _ u => u, h.ex⟩
theorem lockZ_mono {n : Nat} {u o : O} {z z' : Z} (h : Z.Le z z') : Z.Le (lockZ n u o z) (lockZ n u o z') := ⟨fun _ _ w => And.imp_right (h.nx _ _) w, fun _ _ w => And.imp_right (h.rt _ _) w, fun _ _ w => And.imp_right (h.bk _ _) w, fun _ _ w => And.imp_right (h.ct _ _) w, fun _ _ _ w => w⟩
def MonS (d : DenS) : Prop := ∀ ρ S z z', Z.Le z z' → d ρ S z → d ρ S z'
theorem Z.Le.turn2 {z z' : Z} (h : Z.Le z z') {n c n' c' : Env → Sto → Prop} (hn : ∀ ρ S, n ρ S → n' ρ S) (hc : ∀ ρ S, c ρ S → c' ρ S) : Z.Le { z with nx := n, ct := c, bk := z.nx } { z' with nx := n', ct := c', bk := z'.nx } := ⟨hn, h.rt, h.nx, hc, h.ex⟩
theorem Z.Le.seq {z z' : Z} (h : Z.Le z z') {n n' : Env → Sto → Prop} (hn : ∀ ρ S, n ρ S → n' ρ S) : Z.Le { z with nx := n } { z' with nx := n' } := ⟨hn, h.rt, h.bk, h.ct, h.ex⟩
theorem forD_mono {stay : Sto → Prop} {body : D → Env → Sto → Z → Prop} (hb : ∀ x ρ S z z', Z.Le z z' → body x ρ S z → body x ρ S z') : ∀ (xs : List D), MonS (forD stay body xs)
  | [] => fun ρ S z z' h q => ⟨q.1, h.nx _ _ q.2⟩
  | x :: r => fun ρ S z z' h q => ⟨q.1, hb x ρ S _ _ (h.turn2 (fun ρ S w => forD_mono hb r ρ S z z' h w) (fun ρ S w => forD_mono hb r ρ S z z' h w)) q.2⟩
section
variable {Γ : Tab} (hΓ : Γ.Mono)
include hΓ in
mutual
theorem denS_mono : ∀ s : Sm, MonS (denS Γ s)
  | .set i e => fun ρ S z z' h q => den_mono hΓ e ρ S _ _ _ _ (fun d S1 w => h.nx _ _ w) (fun c S1 w => h.ex _ _ _ w) q
  | .setg tg e => fun ρ S z z' h q => den_mono hΓ e ρ S _ _ _ _ (fun d S1 w => tgD_mono (fun ρ' w => h.nx _ _ w) w) (fun c S1 w => h.ex _ _ _ w) q
  | .par i j a b => fun ρ S z z' h q => den_mono hΓ a ρ S _ _ _ _ (fun x S1 w => den_mono hΓ b ρ S1 _ _ _ _ (fun y S2 w => h.nx _ _ w) (fun c S1 w => h.ex _ _ _ w) w) (fun c S1 w => h.ex _ _ _ w) q
  | .aug i op e => fun ρ S z z' h ⟨x, a, q⟩ => ⟨x, a, den_mono hΓ e ρ S _ _ _ _ (fun y S1 ⟨j, b, c, w⟩ => ⟨j, b, c, intOp_mono (fun k w => h.nx _ _ w) w⟩) (fun c S1 w => h.ex _ _ _ w) q⟩
  | .fset o f e => fun ρ S z z' h q => den_mono hΓ e ρ S _ _ _ _ (fun v S1 w => den_mono hΓ o ρ S1 _ _ _ _ (fun x S2 ⟨n, C, fs, a, b, c, d, w⟩ => ⟨n, C, fs, a, b, c, d, h.nx _ _ w⟩) (fun c S1 w => h.ex _ _ _ w) w) (fun c S1 w => h.ex _ _ _ w) q
  | .faug o f op e => fun ρ S z z' h q => den_mono hΓ o ρ S _ _ _ _ (fun x S1 ⟨n, C, fs, i, a, b, c, w⟩ => ⟨n, C, fs, i, a, b, c, den_mono hΓ e ρ S1 _ _ _ _ (fun y S2 ⟨j, b, c, w⟩ => ⟨j, b, c, intOp_mono (fun k ⟨fs', e1, e2, w⟩ => ⟨fs', e1, e2, h.nx _ _ w⟩) w⟩) (fun c S1 w => h.ex _ _ _ w) w⟩) (fun c S1 w => h.ex _ _ _ w) q
  | .iset o i e => fun ρ S z z' h q => den_mono hΓ e ρ S _ _ _ _ (fun v S1 w => den_mono hΓ o ρ S1 _ _ _ _ (fun x S2 w => den_mono hΓ i ρ S2 _ _ _ _ (fun y S3 ⟨n, xs, k, j, a, b, c, d, w⟩ => ⟨n, xs, k, j, a, b, c, d, h.nx _ _ w⟩) (fun c S1 w => h.ex _ _ _ w) w) (fun c S1 w => h.ex _ _ _ w) w) (fun c S1 w => h.ex _ _ _ w) q
  | .dset o i e => fun ρ S z z' h q => den_mono hΓ e ρ S _ _ _ _ (fun v S1 w => den_mono hΓ o ρ S1 _ _ _ _ (fun x S2 w => den_mono hΓ i ρ S2 _ _ _ _ (fun y S3 w => dpD_mono (fun _ w => h.nx _ _ w) w) (fun c S1 w => h.ex _ _ _ w) w) (fun c S1 w => h.ex _ _ _ w) w) (fun c S1 w => h.ex _ _ _ w) q
  | .daug o i op e => fun ρ S z z' h q => den_mono hΓ o ρ S _ _ _ _ (fun x S1 w => den_mono hΓ i ρ S1 _ _ _ _ (fun y S2 w => dgD_mono (fun r ⟨a, e1, w⟩ => ⟨a, e1, den_mono hΓ e ρ S2 _ _ _ _ (fun u S3 ⟨j, b, c, w⟩ => ⟨j, b, c, intOp_mono (fun k w => dpD_mono (fun _ w => h.nx _ _ w) w) w⟩) (fun c S1 w => h.ex _ _ _ w) w⟩) w) (fun c S1 w => h.ex _ _ _ w) w) (fun c S1 w => h.ex _ _ _ w) q
  | .expr e => fun ρ S z z' h q => den_mono hΓ e ρ S _ _ _ _ (fun d S1 w => h.nx _ _ w) (fun c S1 w => h.ex _ _ _ w) q
  | .ret e => fun ρ S z z' h q => den_mono hΓ e ρ S _ _ _ _ (fun d S1 w => h.rt _ _ w) (fun c S1 w => h.ex _ _ _ w) q
  | .retN => fun ρ S z z' h q => h.rt _ _ q
  | .ife t a b => fun ρ S z z' h q => denT_mono hΓ t ρ S _ _ _ _ (fun c S1 w => w.mono (fun w => denB_mono a ρ S1 z z' h w) fun w => denB_mono b ρ S1 z z' h w) (fun c S1 w => h.ex _ _ _ w) q
  | .whil t b => fun ρ S z z' h ⟨W, w0, q⟩ => ⟨W, w0, fun m ρ S w => denT_mono hΓ t ρ S _ _ _ _ (fun c S1 v => v.mono (fun v => denB_mono b ρ S1 _ _ (h.turn _ _) v) fun v => h.nx _ _ v) (fun c S1 w => h.ex _ _ _ w) (q m ρ S w)⟩
  | .for_ tg it b => fun ρ S z z' h q => denI_mono hΓ it ρ S (fun xs stay S1 => forD stay (fun x ρ S z => tgD tg x ρ fun ρ' => denB Γ b ρ' S z) xs ρ S1 z) _ _ _
    (fun xs stay S1 w => forD_mono (body := fun x ρ S z => tgD tg x ρ fun ρ' => denB Γ b ρ' S z) (fun x ρ S z z' h w => tgD_mono (fun ρ' w => denB_mono b ρ' S z z' h w) w) xs ρ S1 z z' h w) (fun c S1 w => h.ex _ _ _ w) q
  | .brk => fun ρ S z z' h q => h.bk _ _ q
  | .cont => fun ρ S z z' h q => h.ct _ _ q
  | .pass => fun ρ S z z' h q => h.nx _ _ q
  | .raise c => fun ρ S z z' h q => h.ex _ _ _ q
  | .lock s => fun ρ S z z' h ⟨n, o, u, a, b, q⟩ => ⟨n, o, u, a, b, denS_mono s ρ _ _ _ (lockZ_mono h) q⟩
  | .tryx b C (some i) hb => fun ρ S z z' h q => by
    refine denB_mono b ρ S _ _ ?_ q
    exact ⟨h.nx, h.rt, h.bk, h.ct, fun k ρ' S' ⟨y, a, w⟩ => ⟨y, a, w.mono (fun w => by
      refine denB_mono hb _ _ _ _ ?_ w
      exact ⟨fun r s v => h.nx _ _ v, h.rt, fun r s v => h.bk _ _ v, fun r s v => h.ct _ _ v, fun _ _ _ v => v⟩) fun w => h.ex _ _ _ w⟩⟩
  | .tryx b C none hb => fun ρ S z z' h q => by
    refine denB_mono b ρ S _ _ ?_ q
    exact ⟨h.nx, h.rt, h.bk, h.ct, fun k ρ' S' ⟨y, a, w⟩ => ⟨y, a, w.mono (fun w => by
      refine denB_mono hb _ _ _ _ ?_ w
      exact ⟨h.nx, h.rt, h.bk, h.ct, fun _ _ _ v => v⟩) fun w => h.ex _ _ _ w⟩⟩
theorem denB_mono : ∀ b : Bl, MonS (denB Γ b)
  | .nil => fun ρ S z z' h q => h.nx _ _ q
  | .cons s r => fun ρ S z z' h q => denS_mono s ρ S _ _ (h.seq fun ρ' S' w => denB_mono r ρ' S' z z' h w) q
end
end
end Wp

/-! the calculus against the hand layer: representation -/
namespace Wp
open PySem PySem.Spec PyProof.Rows L2

/-- names and levels: what the text writes -/
structure Nm where
  fn : List (Option Str)
  lv : Nat → Nat
  mlv : Nat → Nat
  flds : List Str
  cls : List Str
  glb : List Str
  exn : List Str
  attr : Nat → Nat → Bool
  dok : Nat → Nat → Bool
  blt : Blt → Bool
  ve : Bool
  bare : Nat → Bool
  isx : Nat → Bool := fun _ => false
/-- where it stands -/
structure Ad where
  fn : Nat → Addr
  cls : Nat → Addr
  ex : Nat → Addr

def RolAt (K : PySem.W.Frag) (H : Hp) (a : Addr) (xs : List V) : Prop := (∃ o, H a = some (.frz o (.lst xs))) ∨
  ∃ (o : Obj) (its : Array Value) (n : Nat), K.lookup a = some o ∧ o.cls = .type "list" ∧ o.dict = none ∧ o.data = .seq its n ∧ its.size ≤ sizeLine ∧ Vals xs its.toList
theorem RolAt.sq {K : PySem.W.Frag} {H : Hp} {a : Addr} {xs : List V} (h : RolAt K H a xs) : SqL K H a xs := by
  rcases h with ⟨o, h⟩ | h
  · exact .inl (.inr ⟨o, h⟩)
  · exact .inr h
mutual
inductive Rep (K : PySem.W.Frag) (H : Hp) (m : List Addr) : V → D → Prop
  | non : Rep K H m .non .non
  | bl (b : Bool) : Rep K H m (.bl b) (.bl b)
  | int (i : Int) : Rep K H m (.int i) (.int i)
  | str (x : Str) : Rep K H m (.str x) (.str x)
  | tup {a : Addr} {vs : List V} {ds : List D} : SqT K H a vs → Reps K H m vs ds → Rep K H m (.ref a) (.tup ds)
  | rol {a : Addr} {vs : List V} {ds : List D} : RolAt K H a vs → Reps K H m vs ds → Rep K H m (.ref a) (.rol ds)
  | loc {a : Addr} {n : Nat} : m[n]? = some a → Rep K H m (.ref a) (.loc n)
  | key {a : Addr} {ks : List L2.Key} : H a = some (.tup (ks.map kV)) → Rep K H m (.ref a) (.key ks)
inductive Reps (K : PySem.W.Frag) (H : Hp) (m : List Addr) : List V → List D → Prop
  | nil : Reps K H m [] []
  | cons {v : V} {d : D} {vs : List V} {ds : List D} : Rep K H m v d → Reps K H m vs ds → Reps K H m (v :: vs) (d :: ds)
end
structure Ext (H : Hp) (m : List Addr) (H' : Hp) (m' : List Addr) : Prop where
  tup : ∀ a xs, H a = some (.tup xs) → H' a = some (.tup xs)
  frz : ∀ a o u, H a = some (.frz o u) → H' a = some (.frz o u)
  pre : ∀ (i : Nat) a, m[i]? = some a → m'[i]? = some a
/-- .. where a dict may be locked and unlocked -/
structure ExtW (H : Hp) (m : List Addr) (H' : Hp) (m' : List Addr) : Prop where
  tup : ∀ a xs, H a = some (.tup xs) → H' a = some (.tup xs)
  frl : ∀ a o xs, H a = some (.frz o (.lst xs)) → H' a = some (.frz o (.lst xs))
  frt : ∀ a o xs, H a = some (.frz o (.tup xs)) → H' a = some (.frz o (.tup xs))
  pre : ∀ (i : Nat) a, m[i]? = some a → m'[i]? = some a
theorem Ext.w {H H' : Hp} {m m' : List Addr} (e : Ext H m H' m') : ExtW H m H' m' := ⟨e.tup, fun _ _ _ h => e.frz _ _ _ h, fun _ _ _ h => e.frz _ _ _ h, e.pre⟩
theorem Ext.refl {H : Hp} {m : List Addr} : Ext H m H m := ⟨fun _ _ h => h, fun _ _ _ h => h, fun _ _ h => h⟩
theorem Ext.trans {H H1 H2 : Hp} {m m1 m2 : List Addr} (a : Ext H m H1 m1) (b : Ext H1 m1 H2 m2) : Ext H m H2 m2 :=
  ⟨fun x y h => b.tup _ _ (a.tup _ _ h), fun x y z h => b.frz _ _ _ (a.frz _ _ _ h), fun x y h => b.pre _ _ (a.pre _ _ h)⟩
section
variable {K : PySem.W.Frag} {H H' : Hp} {m m' : List Addr}
theorem ExtW.sqt (e : ExtW H m H' m') {a : Addr} {vs : List V} (h : SqT K H a vs) : SqT K H' a vs := by
  rcases h with (h | ⟨o, h⟩) | h
  · exact .inl (.inl (e.tup _ _ h))
  · exact .inl (.inr ⟨o, e.frt _ _ _ h⟩)
  · exact .inr h
theorem ExtW.rol (e : ExtW H m H' m') {a : Addr} {vs : List V} (h : RolAt K H a vs) : RolAt K H' a vs := by
  rcases h with ⟨o, h⟩ | h
  · exact .inl ⟨o, e.frl _ _ _ h⟩
  · exact .inr h
theorem Ext.sqt (e : Ext H m H' m') {a : Addr} {vs : List V} (h : SqT K H a vs) : SqT K H' a vs := e.w.sqt h
theorem Ext.rol (e : Ext H m H' m') {a : Addr} {vs : List V} (h : RolAt K H a vs) : RolAt K H' a vs := e.w.rol h
mutual
theorem Rep.extw (e : ExtW H m H' m') : ∀ {v : V} {d : D}, Rep K H m v d → Rep K H' m' v d
  | _, _, .non => .non
  | _, _, .bl b => .bl b
  | _, _, .int i => .int i
  | _, _, .str x => .str x
  | _, _, .tup h r => .tup (e.sqt h) (Reps.extw e r)
  | _, _, .rol h r => .rol (e.rol h) (Reps.extw e r)
  | _, _, .loc h => .loc (e.pre _ _ h)
  | _, _, .key h => .key (e.tup _ _ h)
theorem Reps.extw (e : ExtW H m H' m') : ∀ {vs : List V} {ds : List D}, Reps K H m vs ds → Reps K H' m' vs ds
  | _, _, .nil => .nil
  | _, _, .cons h r => .cons (Rep.extw e h) (Reps.extw e r)
end
theorem Rep.ext (e : Ext H m H' m') {v : V} {d : D} (h : Rep K H m v d) : Rep K H' m' v d := h.extw e.w
theorem Reps.ext (e : Ext H m H' m') {vs : List V} {ds : List D} (h : Reps K H m vs ds) : Reps K H' m' vs ds := h.extw e.w
theorem Reps.length : ∀ {vs : List V} {ds : List D}, Reps K H m vs ds → vs.length = ds.length
  | _, _, .nil => rfl
  | _, _, .cons _ r => congrArg (· + 1) (Reps.length r)
theorem Reps.get : ∀ {vs : List V} {ds : List D} {i : Nat} {d : D}, Reps K H m vs ds → ds[i]? = some d → ∃ v, vs[i]? = some v ∧ Rep K H m v d
  | _, _, _, _, .nil, e => by simp at e
  | _, _, 0, _, .cons h _, e => by simp at e; subst e; exact ⟨_, rfl, h⟩
  | _, _, i + 1, d, .cons _ r, e => by
    obtain ⟨v, h1, h2⟩ := Reps.get (i := i) (d := d) r (by simpa using e)
    exact ⟨v, by simpa using h1, h2⟩
theorem Reps.get' {vs : List V} {ds : List D} (r : Reps K H m vs ds) {i : Nat} {v : V} (e : vs[i]? = some v) : ∃ d, ds[i]? = some d ∧ Rep K H m v d := by
  have hi : i < ds.length := by
    rw [← r.length]
    exact (List.getElem?_eq_some_iff.mp e).1
  obtain ⟨v', h1, h2⟩ := r.get (List.getElem?_eq_getElem hi)
  rw [e] at h1; cases h1
  exact ⟨_, List.getElem?_eq_getElem hi, h2⟩
theorem Reps.append : ∀ {vs ws : List V} {ds es : List D}, Reps K H m vs ds → Reps K H m ws es → Reps K H m (vs ++ ws) (ds ++ es)
  | _, _, _, _, .nil, s => s
  | _, _, _, _, .cons h r, s => .cons h (Reps.append r s)
theorem Reps.take : ∀ {vs : List V} {ds : List D} (n : Nat), Reps K H m vs ds → Reps K H m (vs.take n) (ds.take n)
  | _, _, 0, _ => .nil
  | _, _, _ + 1, .nil => .nil
  | _, _, n + 1, .cons h r => .cons h (Reps.take n r)
theorem Reps.drop : ∀ {vs : List V} {ds : List D} (n : Nat), Reps K H m vs ds → Reps K H m (vs.drop n) (ds.drop n)
  | _, _, 0, r => r
  | _, _, _ + 1, .nil => .nil
  | _, _, n + 1, .cons h r => Reps.drop n r
theorem Reps.eraseIdx : ∀ {vs : List V} {ds : List D} (n : Nat), Reps K H m vs ds → Reps K H m (vs.eraseIdx n) (ds.eraseIdx n)
  | _, _, _, .nil => .nil
  | _, _, 0, .cons _ r => r
  | _, _, n + 1, .cons q r => .cons q (Reps.eraseIdx n r)
theorem Reps.set {v : V} {d : D} (h : Rep K H m v d) : ∀ {vs : List V} {ds : List D} (n : Nat), Reps K H m vs ds → Reps K H m (vs.set n v) (ds.set n d)
  | _, _, _, .nil => .nil
  | _, _, 0, .cons _ r => .cons h r
  | _, _, n + 1, .cons q r => .cons q (Reps.set h n r)
end

/-- a dict's rows -/
inductive KReps {κ : Type} (K : PySem.W.Frag) (H : Hp) (m : List Addr) : List (κ × V) → List (κ × D) → Prop
  | nil : KReps K H m [] []
  | cons {k : κ} {v : V} {d : D} {r : List (κ × V)} {s : List (κ × D)} : Rep K H m v d → KReps K H m r s → KReps K H m ((k, v) :: r) ((k, d) :: s)
section
variable {κ : Type} {K : PySem.W.Frag} {H H' : Hp} {m m' : List Addr}
theorem KReps.extw (e : ExtW H m H' m') : ∀ {r : List (κ × V)} {s : List (κ × D)}, KReps K H m r s → KReps K H' m' r s
  | _, _, .nil => .nil
  | _, _, .cons h t => .cons (h.extw e) (KReps.extw e t)
theorem KReps.ext (e : Ext H m H' m') {r : List (κ × V)} {s : List (κ × D)} (h : KReps K H m r s) : KReps K H' m' r s := h.extw e.w
theorem KReps.length : ∀ {r : List (κ × V)} {s : List (κ × D)}, KReps K H m r s → r.length = s.length
  | _, _, .nil => rfl
  | _, _, .cons h t => congrArg (· + 1) (KReps.length t)
theorem KReps.keys : ∀ {r : List (κ × V)} {s : List (κ × D)}, KReps K H m r s → r.map (·.1) = s.map (·.1)
  | _, _, .nil => rfl
  | _, _, .cons h t => by rw [List.map_cons, List.map_cons, KReps.keys t]
variable [DecidableEq κ]
theorem KReps.val (k : κ) : ∀ {r : List (κ × V)} {s : List (κ × D)}, KReps K H m r s → match valD s k with
    | some d => ∃ v, valV r k = some v ∧ Rep K H m v d
    | none => valV r k = none
  | _, _, .nil => rfl
  | _, _, .cons (k := k') (v := v) (d := d) (r := r) (s := s) h t => by
    have ih := KReps.val k t
    by_cases e : k' = k
    · have e1 : valD ((k', d) :: s) k = some d := by simp [valD, List.find?_cons, e]
      have e2 : valV ((k', v) :: r) k = some v := by simp [valV, List.find?_cons, e]
      rw [e1]
      exact ⟨v, e2, h⟩
    · have e1 : valD ((k', d) :: s) k = valD s k := by simp [valD, List.find?_cons, e]
      have e2 : valV ((k', v) :: r) k = valV r k := by simp [valV, List.find?_cons, e]
      rw [e1, e2]
      exact ih
theorem KReps.some {k : κ} {d : D} {r : List (κ × V)} {s : List (κ × D)} (h : KReps K H m r s) (e : valD s k = .some d) : ∃ v, valV r k = .some v ∧ Rep K H m v d := by
  have q := h.val k
  rw [e] at q
  exact q
theorem KReps.back {k : κ} {v : V} {r : List (κ × V)} {s : List (κ × D)} (h : KReps K H m r s) (e : valV r k = .some v) : ∃ d, valD s k = .some d ∧ Rep K H m v d := by
  have q := h.val k
  cases e2 : valD s k with
  | none => rw [e2] at q; rw [show valV r k = none from q] at e; cases e
  | some d =>
    rw [e2] at q
    obtain ⟨v', h1, h2⟩ := q
    rw [h1] at e
    cases e
    exact ⟨d, rfl, h2⟩
theorem KReps.nback {k : κ} {r : List (κ × V)} {s : List (κ × D)} (h : KReps K H m r s) (e : valV r k = none) : valD s k = none := by
  cases e2 : valD s k with
  | none => rfl
  | some d =>
    obtain ⟨v, h1, _⟩ := h.some e2
    rw [h1] at e
    cases e
theorem KReps.isSome {r : List (κ × V)} {s : List (κ × D)} (h : KReps K H m r s) (k : κ) : (valV r k).isSome = (valD s k).isSome := by
  have q := h.val k
  cases e : valD s k with
  | none => rw [e] at q; rw [q]; rfl
  | some d => rw [e] at q; obtain ⟨v, q, _⟩ := q; rw [q]; rfl
theorem KReps.any (k : κ) : ∀ {r : List (κ × V)} {s : List (κ × D)}, KReps K H m r s → (r.any fun kv => decide (kv.1 = k)) = s.any fun kv => decide (kv.1 = k)
  | _, _, .nil => rfl
  | _, _, .cons h t => by rw [List.any_cons, List.any_cons, KReps.any k t]
theorem KReps.repl {v : V} {d : D} (k : κ) (hv : Rep K H m v d) : ∀ {r : List (κ × V)} {s : List (κ × D)}, KReps K H m r s → KReps K H m (r.map fun kv => if kv.1 = k then (kv.1, v) else kv) (s.map fun kv => if kv.1 = k then (kv.1, d) else kv)
  | _, _, .nil => .nil
  | _, _, .cons (k := k') h t => by
    rw [List.map_cons, List.map_cons]
    by_cases e : k' = k
    · rw [if_pos e, if_pos e]
      exact .cons hv (KReps.repl k hv t)
    · rw [if_neg e, if_neg e]
      exact .cons h (KReps.repl k hv t)
theorem KReps.snoc {k : κ} {v : V} {d : D} (hv : Rep K H m v d) : ∀ {r : List (κ × V)} {s : List (κ × D)}, KReps K H m r s → KReps K H m (r ++ [(k, v)]) (s ++ [(k, d)])
  | _, _, .nil => .cons hv .nil
  | _, _, .cons h t => .cons h (KReps.snoc hv t)
theorem KReps.put {v : V} {d : D} (k : κ) (hv : Rep K H m v d) {r : List (κ × V)} {s : List (κ × D)} (h : KReps K H m r s) : KReps K H m (putK r k v) (putD s k d) := by
  unfold putK putD
  rw [h.any k]
  split
  · exact h.repl k hv
  · exact h.snoc hv
theorem KReps.drop (k : κ) : ∀ {r : List (κ × V)} {s : List (κ × D)}, KReps K H m r s → KReps K H m (dropK r k) (dropD s k)
  | _, _, .nil => .nil
  | _, _, .cons (k := k') (v := v) (d := d) (r := r) (s := s) h t => by
    have ih := KReps.drop k t
    by_cases e : k' = k
    · have e1 : dropD ((k', d) :: s) k = dropD s k := by simp [dropD, e]
      have e2 : dropK ((k', v) :: r) k = dropK r k := by simp [dropK, e]
      rw [e1, e2]
      exact ih
    · have e1 : dropD ((k', d) :: s) k = (k', d) :: dropD s k := by simp [dropD, e]
      have e2 : dropK ((k', v) :: r) k = (k', v) :: dropK r k := by simp [dropK, e]
      rw [e1, e2]
      exact .cons h ih
end
section
variable (nm : Nm) (ad : Ad) (K : PySem.W.Frag)
/-- the attributes of an instance -/
inductive FsRep (H : Hp) (m : List Addr) (C : Nat) : List (Str × V) → List (Nat × D) → Prop
  | nil : FsRep H m C [] []
  | cons {f : Str} {g : Nat} {v : V} {d : D} {r : List (Str × V)} {s : List (Nat × D)} : nm.flds[g]? = some f → nm.attr C g = true → Rep K H m v d → FsRep H m C r s → FsRep H m C ((f, v) :: r) ((g, d) :: s)
def RepO (H : Hp) (m : List Addr) (a : Addr) : O → Prop
  | .lst xs => ∃ vs, H a = some (.lst vs) ∧ Reps K H m vs xs
  | .ins C fs => ∃ dx fvs, H a = some (.ins (ad.cls C) dx fvs) ∧ FsRep nm K H m C fvs fs
  | .dk kvs => ∃ r, H a = some (.dK r) ∧ KReps K H m r kvs
  | .dt kvs => ∃ r, H a = some (.dT r) ∧ KReps K H m r kvs
  | .fk kvs => ∃ r, (∃ o, H a = some (.frz o (.dK r))) ∧ KReps K H m r kvs
  | .ft kvs => ∃ r, (∃ o, H a = some (.frz o (.dT r))) ∧ KReps K H m r kvs
structure Sim (H : Hp) (m : List Addr) (S : Sto) : Prop where
  len : m.length = S.length
  nd : m.Nodup
  obj : ∀ (n : Nat) o a, S[n]? = some o → m[n]? = some a → RepO nm ad K H m a o
/-- slots that are no data: an exception's name; what it holds -/
abbrev Es := List Nat × List (Nat × Addr × Nat)
/-- the slots -/
structure SimA (H0 : Hp) (m0 : List Addr) (es : Es) (σ : L2.St) (H : Hp) (ρ : Env) (S : Sto) (m : List Addr) : Prop where
  sim : Sim nm ad K H m S
  len : ρ.length = σ.length
  at_ : ∀ (i : Nat) d, ρ[i]? = some (some d) → i ∉ es.1 → ∃ v, σ[i]? = some (some v) ∧ Rep K H m v d
  anc : Ext H0 m0 H m
  hold : ∀ p ∈ es.2, p.1 ∈ es.1 ∧ σ[p.1]? = some (some (.ref p.2.1)) ∧ ρ[p.1]? = some (some (.exc p.2.2))
end
section
variable {nm : Nm} {ad : Ad} {K : PySem.W.Frag} {H H' H0 : Hp} {m m' m0 : List Addr} {S S' : Sto} {σ : L2.St} {ρ : Env} {es : Es}
theorem FsRep.extw {C : Nat} (e : ExtW H m H' m') : ∀ {r : List (Str × V)} {s : List (Nat × D)}, FsRep nm K H m C r s → FsRep nm K H' m' C r s
  | _, _, .nil => .nil
  | _, _, .cons a b c d => .cons a b (c.extw e) (FsRep.extw e d)
theorem FsRep.ext {C : Nat} (e : Ext H m H' m') {r : List (Str × V)} {s : List (Nat × D)} (h : FsRep nm K H m C r s) : FsRep nm K H' m' C r s := h.extw e.w
theorem FsRep.length {C : Nat} : ∀ {r : List (Str × V)} {s : List (Nat × D)}, FsRep nm K H m C r s → r.length = s.length
  | _, _, .nil => rfl
  | _, _, .cons a b c d => congrArg (· + 1) (FsRep.length d)
theorem nd_get {l : List Str} (h : l.Nodup) {i j : Nat} {x : Str} (a : l[i]? = some x) (b : l[j]? = some x) : i = j := nd_ix h a b
theorem FsRep.look {C : Nat} (hn : nm.flds.Nodup) {g : Nat} {f : Str} (hf : nm.flds[g]? = some f) : ∀ {r : List (Str × V)} {s : List (Nat × D)}, FsRep nm K H m C r s →
    match s.lookup g with
    | some d => ∃ v, r.lookup f = some v ∧ Rep K H m v d ∧ nm.attr C g = true
    | none => r.lookup f = none
  | _, _, .nil => rfl
  | _, _, .cons (f := f') (g := g') (v := v) (d := d) (r := r) (s := s) a b c e => by
    have ih := FsRep.look hn hf e
    by_cases q : g = g'
    · subst q
      have : f' = f := Option.some.inj (a.symm.trans hf)
      subst this
      simp only [List.lookup, beq_self_eq_true]
      exact ⟨v, rfl, c, b⟩
    · have q2 : f ≠ f' := fun z => q (nd_get hn hf (by rw [z]; exact a))
      have b1 : (g == g') = false := beq_eq_false_iff_ne.mpr q
      have b2 : (f == f') = false := beq_eq_false_iff_ne.mpr q2
      simp only [List.lookup, b1, b2]
      exact ih
theorem FsRep.put {C : Nat} (hn : nm.flds.Nodup) {g : Nat} {f : Str} {v : V} {d : D} (hf : nm.flds[g]? = some f) (ha : nm.attr C g = true) (hv : Rep K H m v d) : ∀ {r : List (Str × V)} {s : List (Nat × D)}, FsRep nm K H m C r s → FsRep nm K H m C (putF f v r) (putN g d s)
  | _, _, .nil => .cons hf ha hv .nil
  | _, _, .cons (f := f') (g := g') (v := v') (d := d') (r := r) (s := s) a b c e => by
    show FsRep nm K H m C (if f' = f then (f', v) :: r else (f', v') :: putF f v r) (if g' = g then (g', d) :: s else (g', d') :: putN g d s)
    by_cases q : g' = g
    · subst q
      have : f' = f := Option.some.inj (a.symm.trans hf)
      subst this
      rw [if_pos rfl, if_pos rfl]
      exact .cons a b hv e
    · have q2 : f' ≠ f := fun z => q (nd_get hn (by rw [← z]; exact a) hf)
      rw [if_neg q, if_neg q2]
      exact .cons a b c (FsRep.put hn hf ha hv e)
theorem RepO.extw {a : Addr} {o : O} (e : ExtW H m H' m') (k : H' a = H a) (h : RepO nm ad K H m a o) : RepO nm ad K H' m' a o := by
  cases o with
  | lst xs =>
    obtain ⟨vs, h1, h2⟩ := h
    exact ⟨vs, k.trans h1, h2.extw e⟩
  | ins C fs =>
    obtain ⟨dx, fvs, h1, h2⟩ := h
    exact ⟨dx, fvs, k.trans h1, h2.extw e⟩
  | dk kvs =>
    obtain ⟨r, h1, h2⟩ := h
    exact ⟨r, k.trans h1, h2.extw e⟩
  | dt kvs =>
    obtain ⟨r, h1, h2⟩ := h
    exact ⟨r, k.trans h1, h2.extw e⟩
  | fk kvs =>
    obtain ⟨r, ⟨o, h1⟩, h2⟩ := h
    exact ⟨r, ⟨o, k.trans h1⟩, h2.extw e⟩
  | ft kvs =>
    obtain ⟨r, ⟨o, h1⟩, h2⟩ := h
    exact ⟨r, ⟨o, k.trans h1⟩, h2.extw e⟩
theorem RepO.ext {a : Addr} {o : O} (e : Ext H m H' m') (k : H' a = H a) (h : RepO nm ad K H m a o) : RepO nm ad K H' m' a o := h.extw e.w k
/-- tracked, and no tuple, nothing locked -/
def Mu : Option HO → Prop
  | some (.lst _) => True
  | some (.ins _ _ _) => True
  | some (.dK _) => True
  | some (.dT _) => True
  | _ => False
theorem mu_of {a : Addr} {u : HO} (h : H a = some u) (hu : Mu (some u)) : Mu (H a) := by
  rw [h]
  exact hu
theorem RepO.some {a : Addr} {o : O} (h : RepO nm ad K H m a o) : H a ≠ none := by
  cases o with
  | lst xs =>
    obtain ⟨vs, h1, _⟩ := h
    rw [h1]; intro z; cases z
  | ins C fs =>
    obtain ⟨dx, fvs, h1, _⟩ := h
    rw [h1]; intro z; cases z
  | dk kvs =>
    obtain ⟨r, h1, _⟩ := h
    rw [h1]; intro z; cases z
  | dt kvs =>
    obtain ⟨r, h1, _⟩ := h
    rw [h1]; intro z; cases z
  | fk kvs =>
    obtain ⟨r, ⟨o, h1⟩, _⟩ := h
    rw [h1]; intro z; cases z
  | ft kvs =>
    obtain ⟨r, ⟨o, h1⟩, _⟩ := h
    rw [h1]; intro z; cases z
theorem Sim.lt (s : Sim nm ad K H m S) {n : Nat} {a : Addr} (h : m[n]? = some a) : n < S.length := by
  rw [← s.len]
  exact (List.getElem?_eq_some_iff.mp h).1
theorem Sim.at_ (s : Sim nm ad K H m S) {n : Nat} {a : Addr} (h : m[n]? = some a) : ∃ o, S[n]? = some o ∧ RepO nm ad K H m a o :=
  ⟨S[n]'(s.lt h), List.getElem?_eq_getElem (s.lt h), s.obj n _ a (List.getElem?_eq_getElem (s.lt h)) h⟩
theorem Sim.lst (s : Sim nm ad K H m S) {n : Nat} {a : Addr} {xs : List D} (h : m[n]? = some a) (hx : lstAt S n = some xs) : ∃ vs, H a = some (.lst vs) ∧ Reps K H m vs xs := by
  unfold lstAt at hx
  split at hx
  · cases hx
    rename_i e
    exact s.obj n _ a e h
  · cases hx
/-- a new untracked address is none of ours -/
theorem Sim.fresh (s : Sim nm ad K H m S) {p : Addr} (h : H p = none) : p ∉ m := fun z => by
  obtain ⟨n, hn⟩ := List.mem_iff_getElem?.mp z
  obtain ⟨_, _, r⟩ := s.at_ hn
  exact r.some h
/-- what is outside of the store changes: tuples, new things -/
theorem Sim.keep (s : Sim nm ad K H m S) (e : Ext H m H' m) (k : ∀ a ∈ m, H' a = H a) : Sim nm ad K H' m S :=
  ⟨s.len, s.nd, fun n o a h1 h2 => (s.obj n o a h1 h2).ext e (k a (List.mem_of_getElem? h2))⟩
theorem ext_new {p : Addr} {o : HO} (h : H p = none) : Ext H m (upd H p o) m :=
  ⟨fun a xs q => by rw [upd_ne (ne_of_none q h)]; exact q, fun a x u q => by rw [upd_ne (ne_of_none q h)]; exact q, fun _ _ q => q⟩
theorem ext_snoc {p : Addr} {o : HO} (h : H p = none) : Ext H m (upd H p o) (m ++ [p]) :=
  ⟨fun a xs q => by rw [upd_ne (ne_of_none q h)]; exact q, fun a x u q => by rw [upd_ne (ne_of_none q h)]; exact q, fun i a q => by
    rw [List.getElem?_append_left (List.getElem?_eq_some_iff.mp q).1]; exact q⟩
theorem ext_mut {p : Addr} {o : HO} (h : Mu (H p)) : Ext H m (upd H p o) m :=
  ⟨fun a xs q => by rw [upd_ne (fun z => by rw [← z, q] at h; exact h)]; exact q, fun a x u q => by rw [upd_ne (fun z => by rw [← z, q] at h; exact h)]; exact q, fun _ _ q => q⟩
/-- a new thing outside of the store -/
theorem Sim.new (s : Sim nm ad K H m S) {p : Addr} {o : HO} (h : H p = none) : Sim nm ad K (upd H p o) m S :=
  s.keep (ext_new h) fun a ha => upd_ne fun z => s.fresh h (by rw [← z]; exact ha)
theorem get_last {α : Type} {l : List α} {x : α} : (l ++ [x])[l.length]? = some x := by simp
/-- a new thing of the store -/
theorem Sim.push (s : Sim nm ad K H m S) {p : Addr} {o : HO} {x : O} (h : H p = none) (r : RepO nm ad K (upd H p o) (m ++ [p]) p x) : Sim nm ad K (upd H p o) (m ++ [p]) (S ++ [x]) where
  len := by rw [List.length_append, List.length_append, s.len]; rfl
  nd := by
    refine List.nodup_append.mpr ⟨s.nd, by simp, fun a ha b hb e => ?_⟩
    rw [List.mem_singleton] at hb
    exact s.fresh h (by rw [← hb, ← e]; exact ha)
  obj := fun n o' a h1 h2 => by
    by_cases hn : n < m.length
    · rw [List.getElem?_append_left hn] at h2
      rw [List.getElem?_append_left (by rw [← s.len]; exact hn)] at h1
      exact (s.obj n o' a h1 h2).ext (ext_snoc h) (upd_ne fun z => s.fresh h (by rw [← z]; exact List.mem_of_getElem? h2))
    · have hl : n = m.length := by
        have := (List.getElem?_eq_some_iff.mp h2).1
        rw [List.length_append, List.length_singleton] at this
        omega
      subst hl
      rw [get_last] at h2
      rw [s.len, get_last] at h1
      cases h1; cases h2
      exact r
/-- a thing of the store changes -/
theorem Sim.updw (s : Sim nm ad K H m S) {n : Nat} {p : Addr} {o : HO} {x : O} (e : ExtW H m (L2.upd H p o) m) (hp : m[n]? = some p) (r : RepO nm ad K (upd H p o) m p x) : Sim nm ad K (L2.upd H p o) m (S.set n x) where
  len := by rw [List.length_set]; exact s.len
  nd := s.nd
  obj := fun k o' a h1 h2 => by
    by_cases hk : n = k
    · subst hk
      rw [hp] at h2; cases h2
      rw [List.getElem?_set_self (s.lt hp)] at h1
      cases h1
      exact r
    · rw [List.getElem?_set_ne hk] at h1
      exact (s.obj k o' a h1 h2).extw e (upd_ne fun z => hk (nd_ix s.nd hp (by rw [← z]; exact h2)))
theorem Sim.upd (s : Sim nm ad K H m S) {n : Nat} {p : Addr} {o : HO} {x : O} (mu : Mu (H p)) (hp : m[n]? = some p) (r : RepO nm ad K (upd H p o) m p x) : Sim nm ad K (L2.upd H p o) m (S.set n x) := s.updw (ext_mut mu).w hp r
theorem SimA.step (s : SimA nm ad K H0 m0 es σ H ρ S m) (e : Ext H m H' m') (n : Sim nm ad K H' m' S') : SimA nm ad K H0 m0 es σ H' ρ S' m' :=
  ⟨n, s.len, fun i d h hi => let ⟨v, a, r⟩ := s.at_ i d h hi; ⟨v, a, r.ext e⟩, s.anc.trans e, s.hold⟩
theorem SimA.set (s : SimA nm ad K H0 m0 es σ H ρ S m) {i : Nat} {v : V} {d : D} (r : Rep K H m v d) (hi : i ∉ es.1) : SimA nm ad K H0 m0 es (σ.set i (some v)) H (ρ.set i (some d)) S m :=
  ⟨s.sim, by rw [List.length_set, List.length_set]; exact s.len, fun j d' h hj => by
    by_cases e : i = j
    · subst e
      by_cases hl : i < ρ.length
      · rw [List.getElem?_set_self hl] at h
        cases h
        exact ⟨v, List.getElem?_set_self (by rw [← s.len]; exact hl), r⟩
      · rw [List.getElem?_eq_none (by simpa using hl)] at h
        cases h
    · rw [List.getElem?_set_ne e] at h ⊢
      exact s.at_ j d' h hj, s.anc, fun p hp => by
    obtain ⟨h1, h2, h3⟩ := s.hold p hp
    have e : i ≠ p.1 := fun e => hi (e ▸ h1)
    exact ⟨h1, by rw [List.getElem?_set_ne e]; exact h2, by rw [List.getElem?_set_ne e]; exact h3⟩⟩
end
end Wp

/-! dicts whose keys are tuples: a copy, == and != -/
namespace Wp
open PySem PySem.Spec PyProof.Rows L2

section
variable {prog : Program} {w : World} {K : Type} [DecidableEq K] {knd : HeapKind prog w K} {A : Around} {E : Value → Shared → Prop} {s : Shared}
/-- each entry stands in the other one, with an equal value -/
def HitsT (prog : Program) (w : World) (A : Around) (s : Shared) (kb : List (K × Addr × Value)) (ka : List (K × Addr × Value)) : Prop := ∀ x ∈ ka, ∃ (j : Nat) (p : Addr × Value), kb[j]? = some (x.1, p) ∧ SeqAt.EqP prog w A s x.2.2 p.2 true
theorem samePairsT {nm : String} {a b : Addr} {ka kb : List (K × Addr × Value)} {Q : Bool → Shared → Prop} (hu : knd.room A) (ha : (a == sysModules) = false) (hb : (b == sysModules) = false)
    (da : s.heap.DictOfH knd a ka) (db : s.heap.DictOfH knd b kb) (hlen : ka.length = kb.length) (hits : HitsT prog w A s kb ka) (h : Q true s) :
    wpAny (model prog w) A (Builtin.Dict.samePairs nm a b) Q E s := by
  obtain ⟨oa, es, ep, hoa, _, hda, hea, hisa, _⟩ := da
  obtain ⟨ob, es', ep', hob, _, hdb, heb, hisb, hnb⟩ := db
  have hla : es.size = ka.length := size_of_entries hea
  have hlb : es'.size = kb.length := size_of_entries heb
  unfold Builtin.Dict.samePairs Builtin.Dict.showsAll
  rw [if_neg (show ¬ (a == sysModules) = true by rw [ha]; exact Bool.false_ne_true), if_neg (show ¬ (b == sysModules) = true by rw [hb]; exact Bool.false_ne_true)]
  refine wpAny_bind (wpAny_pure (wpAny_bind (wpAny_pure ?_)))
  refine wpAny_bind (wpAny_dictEntries hoa hda ?_)
  dsimp only
  refine wpAny_bind (wpAny_dictEntries hob hdb ?_)
  rw [if_neg (by rw [hla, hlb, hlen]; simp)]
  refine wpAny_bind (wpAny_dictEpoch hoa hda ?_)
  refine wpAny_bind ?_
  rw [Std.Legacy.Range.forIn_eq_forIn_range']
  simp only [Std.Legacy.Range.size, Nat.sub_zero, Nat.add_sub_cancel, Nat.div_one]
  refine wpAny_forIn_list _
    (fun rest q s' => s' = s ∧ q = (none, ()) ∧ ∃ i, rest = List.range' i (es.size - i) ∧ i ≤ es.size)
    _ ?_ ?_ _ _ ⟨rfl, rfl, 0, by simp, Nat.zero_le _⟩
  · rintro x rest q s' ⟨rfl, rfl, i, hr, hi⟩
    have hlt : i < es.size := by
      rcases Nat.lt_or_ge i es.size with h | h
      · exact h
      · rw [Nat.sub_eq_zero_of_le h] at hr; simp at hr
    obtain ⟨rfl, hrest⟩ : x = i ∧ rest = List.range' (i + 1) (es.size - (i + 1)) := by
      have e : es.size - i = (es.size - (i + 1)) + 1 := by omega
      rw [e, List.range'_succ] at hr
      injection hr with h1 h2
      exact ⟨h1, h2⟩
    refine wpAny_bind (wpAny_dictEntries hoa hda ?_)
    obtain ⟨⟨k, c, v⟩, hkv⟩ : ∃ kv, ka[x]? = some kv := ⟨ka[x]'(by rw [← hla]; exact hlt), List.getElem?_eq_getElem _⟩
    rw [entry_at hea x, hkv]
    obtain ⟨j, p, hj, he⟩ := hits _ (List.mem_of_getElem? hkv)
    show wpAny _ _ (holding [.ref c, v] _ >>= _) _ _ _
    refine wpAny_bind (wpAny_holding (wpAny_bind (wpAny_dictFind_heap hu (hisa _ (List.mem_of_getElem? hkv)) hob hdb heb hisb hnb (fun hno => absurd hj (hno j p)) fun j' p' hj' => ?_)))
    refine wpAny_bind (wpAny_dictEntries hob hdb ?_)
    rw [entry_at heb j', hj']
    have ej : p' = p := by
      have e1 : (kb.map (·.1))[j']? = some k := by rw [List.getElem?_map, hj']; rfl
      have e2 : (kb.map (·.1))[j]? = some k := by rw [List.getElem?_map, hj]; rfl
      have : j' = j := nd_ix hnb e1 e2
      subst this
      rw [hj'] at hj
      have := Option.some.inj hj
      exact (Prod.mk.inj this).2
    subst ej
    refine wpAny_holding (he _ _ ?_)
    show wpAny _ _ (if (!true) = true then _ else _) _ _ _
    rw [if_neg (by decide)]
    refine wpAny_bind (wpAny_dictEpoch hoa hda ?_)
    rw [if_neg (by simp)]
    exact wpAny_pure ⟨rfl, rfl, x + 1, hrest, hlt⟩
  · rintro q s' ⟨rfl, rfl, i, hr, hi⟩
    exact wpAny_pure h
theorem rcT_dicts {a b : Addr} {ka kb : List (K × Addr × Value)} (hk : knd.room A.in1) (ha : (a == sysModules) = false) (hb : (b == sysModules) = false)
    (da : s.heap.DictOfH knd a ka) (db : s.heap.DictOfH knd b kb) (hu : A.units < cLine) (hlen : ka.length = kb.length) (hits : HitsT prog w A.in1 s kb ka) (E Q : Value → Shared → Prop) (h : Q (.bool true) s) : wpAny (model prog w) A (richCompare .Eq (.ref a) (.ref b)) Q E s := by
  refine wpAny_richCompare_same_room (op := .Eq) da.typeIs db.typeIs PySem.F.slot_dict_eq (wpAny_call_entry PySem.F.slot_dict_eq da.typeIs PySem.F.entry_dict_eq ?_ (PySem.F.args_dict_eq_2 _ _)) hu
  show wpAny _ _ (Builtin.Dict.dictSlotArgs "__eq__" ⟨[.ref a, .ref b], []⟩ >>= _) _ _ s
  refine wpAny_bind ?_
  unfold Builtin.Dict.dictSlotArgs
  refine wpAny_bind (wpAny_notOrdered_dict da.typeIs ?_)
  show wpAny _ _ (pure (Value.ref a, Value.ref b)) _ _ s
  refine wpAny_pure ?_
  refine wpAny_bind (wpAny_isInstance (T := "dict") db.typeIs PySem.F.sub_dict_dict ?_)
  simp only [Bool.not_true, Bool.false_eq_true, if_false]
  refine wpAny_bind (wpAny_pure (wpAny_bind (wpAny_pure ?_)))
  refine wpAny_bind (samePairsT hk ha hb da db hlen hits ?_)
  exact wpAny_pure ⟨_, rfl, (fun x => nomatch x), h⟩
theorem neT_dicts {a b : Addr} {ka kb : List (K × Addr × Value)} (hk : knd.room A.in1) (ha : (a == sysModules) = false) (hb : (b == sysModules) = false)
    (da : s.heap.DictOfH knd a ka) (db : s.heap.DictOfH knd b kb) (hu : A.units < cLine) (hlen : ka.length = kb.length) (hits : HitsT prog w A.in1 s kb ka) (E Q : Value → Shared → Prop) (h : Q (.bool false) s) : wpAny (model prog w) A (compareOp .NotEq (.ref a) (.ref b)) Q E s := by
  refine wpAny_richCompare_same_room (op := .NotEq) da.typeIs db.typeIs PySem.F.slot_dict_ne (wpAny_call_entry PySem.F.slot_dict_ne da.typeIs PySem.F.entry_dict_ne ?_ (PySem.F.args_dict_ne_2 _ _)) hu
  show wpAny _ _ (Builtin.Dict.dictSlotArgs "__ne__" ⟨[.ref a, .ref b], []⟩ >>= _) _ _ s
  refine wpAny_bind ?_
  unfold Builtin.Dict.dictSlotArgs
  refine wpAny_bind (wpAny_notOrdered_dict da.typeIs ?_)
  show wpAny _ _ (pure (Value.ref a, Value.ref b)) _ _ s
  refine wpAny_pure ?_
  refine wpAny_bind (wpAny_isInstance (T := "dict") db.typeIs PySem.F.sub_dict_dict ?_)
  simp only [Bool.not_true, Bool.false_eq_true, if_false]
  refine wpAny_bind (wpAny_pure (wpAny_bind (wpAny_pure ?_)))
  refine wpAny_bind (samePairsT hk ha hb da db hlen hits ?_)
  exact wpAny_pure ⟨_, rfl, (fun x => nomatch x), h⟩
/-- dict(d) of one with such keys: their hashes differ -/
theorem call_copyT {o : Addr} {more : List (K × Addr × Value)} {Q : Value → Shared → Prop} (hk : knd.room A.in1.in1) (hoS : (o == sysModules) = false) (ho : s.heap.DictOfH knd o more)
    (hap : (∀ x ∈ more, s.TypeIs (.ref x.2.1) "tuple") ∧ (more.map fun x => knd.hash x.1).Nodup) (hsz : more.length ≤ sizeLine)
    (hst : ∀ h', (∀ b q, s.heap.get? b = some q → h'.get? b = some q) → ∀ x ∈ more, knd.is h' x.1 x.2.1)
    (h : ∀ h', h'.DictOfH knd s.heap.objs.size more → Heap.SameBut s.heap.objs.size (s.heap.push { cls := .type "dict", data := .dict #[] }) h' → Q (.ref s.heap.objs.size) { s with heap := h' }) :
    wpAny (model prog w) A (call (.type "dict") [.ref o]) Q E s := by
  refine callType_codes (Q₁ := fun obj s₁ => obj = .ref s.heap.objs.size ∧ s₁ = { s with heap := s.heap.push { cls := .type "dict", data := .dict #[] } }) F.kt_called_dict (F.kt_typeCall_dict_1 _) F.entry_dict_init (kt_code_dict_new _ ⟨rfl, rfl⟩) ?_
  rintro obj s₁ ⟨rfl, rfl⟩
  have hpush : ∀ b q, s.heap.get? b = some q → (s.heap.push { cls := .type "dict", data := .dict #[] }).get? b = some q := fun b q e => Heap.get?_push_of_some _ e
  have hnew : (s.heap.push { cls := .type "dict", data := .dict #[] }).DictOfH knd s.heap.objs.size [] := ⟨_, _, _, Heap.get?_push_size _ rfl, ⟨rfl, rfl, rfl⟩, rfl, rfl, (fun x hx => by cases hx), List.nodup_nil⟩
  have hdo : s.heap.objs.size ≠ o := by
    obtain ⟨_, _, _, hg, _⟩ := ho
    exact fun e => absurd (Heap.lt_size hg) (by rw [e]; exact Nat.lt_irrefl _)
  have hn := ho.nodup
  have ho' : (s.heap.push { cls := .type "dict", data := .dict #[] }).DictOfH knd o more := by
    obtain ⟨q, es, ep, h1, h2, h3, h4, h5, h6⟩ := ho
    exact ⟨q, es, ep, hpush _ _ h1, h2, h3, h4, hst _ hpush, h6⟩
  refine ⟨hnew.typeIs, F.args_dict_init_2 _ _, ?_⟩
  unfold Builtin.«dict.__init__»
  refine wpAny_bind ?_
  unfold Builtin.Dict.selfAndRest
  refine wpAny_bind (wpAny_notOrdered_dict hnew.typeIs ?_)
  show wpAny _ _ (pure (s.heap.objs.size, [Value.ref o])) _ _ _
  refine wpAny_pure ?_
  show wpAny _ _ (Builtin.Dict.updateFrom "dict.__init__" s.heap.objs.size (.ref o) [] .none) _ _ _
  unfold Builtin.Dict.updateFrom
  refine wpAny_bind (wpAny_typeOf ho'.typeIs ?_)
  rw [if_neg (by decide)]
  refine wpAny_bind ?_
  unfold Builtin.Dict.merge
  refine wpAny_bind ?_
  unfold Builtin.Dict.readDirectly
  refine wpAny_bind (wpAny_isInstance ho'.typeIs isSubtype_dict_dict ?_)
  simp only [Bool.not_true, Bool.false_eq_true, if_false]
  refine wpAny_bind (wpAny_specialOf ho'.typeIs F.slot_dict_iter.lookup (wpAny_pure ?_))
  simp only [beq_self_eq_true, if_true]
  refine wpAny_bind (wpAny_pure ?_)
  refine wpAny_mergeDict_heap (hsz := by simpa using hsz) hk hdo hoS hnew ho' (.inr ⟨fun x hx => ?_, hap.2⟩) fun h' hd' _ hs' => ?_
  · obtain ⟨q, e1, e2⟩ := hap.1 x hx
    exact ⟨q, hpush _ _ e1, e2⟩
  show wpAny _ _ (Builtin.Dict.addKeywords s.heap.objs.size [] >>= _) _ _ _
  rw [storedAllH_nil_of_nodup more hn] at hd'
  exact wpAny_bind (wpAny_pure (wpAny_pure ⟨rfl, h h' hd' hs'⟩))
end
section
variable {X : Cx} {pins : List (Addr × Obj)} {σ : L2.St} {H : Hp} {s : Shared}
/-- two things that are equal data -/
def LeafEq (K : PySem.W.Frag) (H : Hp) (x y : V) : Prop := ∃ d e, Dp K H x d ∧ Dp K H y e ∧ SeqAt.shaped d = true ∧ SeqAt.shaped e = true ∧ PyData.eqv d e = true
theorem leaf_eqP (I : Inv X pins σ H s) {A : Around} (hu : A.units + 64 < cLine) {x y : V} {v u : Value} (h : LeafEq X.K H x y) (rx : RelV x v) (ry : RelV y u) : SeqAt.EqP X.prog X.w A s v u true := by
  obtain ⟨d, e, hd, he, sd, se, q⟩ := h
  obtain ⟨as, r1⟩ := Dp.reads I d x v hd rx
  obtain ⟨bs, r2⟩ := Dp.reads I e y u he ry
  have := SeqAt.eqAt_reads d e A s v u as bs r1 r2 (SeqAt.canLay_of_shaped sd) (SeqAt.canLay_of_shaped se) (SeqAt.room_of_shaped sd hu)
  rw [q] at this
  exact this.eqP
theorem hitsT (I : Inv X pins σ H s) {A : Around} {F : V → V → Prop} (ih : ∀ x y v u, F x y → RelV x v → RelV y u → SeqAt.EqP X.prog X.w A s v u true) {ks ls : List (List L2.Key × V)} {xs ys : List (List L2.Key × Addr × Value)}
    (ra : KT H ks xs) (rb : KT H ls ys) (hp : ∀ p ∈ ks, ∃ u, valV ls p.1 = some u ∧ F p.2 u) : HitsT X.prog X.w A s ys xs := by
  intro x hx
  obtain ⟨i, hi⟩ := List.mem_iff_getElem?.mp hx
  obtain ⟨p, h1, h2, _, h4⟩ : ∃ p, ks[i]? = some p ∧ p.1 = x.1 ∧ H x.2.1 = some (.tup (p.1.map kV)) ∧ RelV p.2 x.2.2 := by
    have hl : ks.length = xs.length := Paired.length ra
    have hk : i < ks.length := by rw [hl]; exact (List.getElem?_eq_some_iff.mp hi).1
    obtain ⟨q, hq, e1, e2, e3⟩ := paired_get ra (List.getElem?_eq_getElem hk)
    rw [hi] at hq
    cases hq
    exact ⟨_, List.getElem?_eq_getElem hk, e1, e2, e3⟩
  obtain ⟨u, e, f⟩ := hp p (List.mem_of_getElem? h1)
  have rr : RelO (some u) ((atKey ys p.1).map (·.2)) := by rw [← e]; exact rb.val p.1
  obtain ⟨y, hy, ry⟩ := rr.some_of
  unfold atKey at hy
  cases hf : ys.find? fun x => decide (x.1 = p.1) with
  | none => rw [hf] at hy; cases hy
  | some z =>
    rw [hf] at hy
    have hz := List.find?_some hf
    simp only [decide_eq_true_eq] at hz
    obtain ⟨j, hj⟩ := List.mem_iff_getElem?.mp (List.mem_of_find?_eq_some hf)
    have hy : z.2.2 = y := Option.some.inj hy
    refine ⟨j, z.2, ?_, ?_⟩
    · rw [hj, ← h2, ← hz]
    · rw [hy]
      exact ih _ _ _ _ f h4 ry
def rEqT (K : PySem.W.Frag) : R2 := fun x y H Q => ∃ a b ks ls, x = .ref a ∧ y = .ref b ∧ H a = some (.dT ks) ∧ H b = some (.dT ls) ∧ ks.length = ls.length ∧ (∀ p ∈ ks, ∃ u, valV ls p.1 = some u ∧ LeafEq K H p.2 u) ∧ Q (.bl true) H
def rNeT (K : PySem.W.Frag) : R2 := fun x y H Q => ∃ a b ks ls, x = .ref a ∧ y = .ref b ∧ H a = some (.dT ks) ∧ H b = some (.dT ls) ∧ ks.length = ls.length ∧ (∀ p ∈ ks, ∃ u, valV ls p.1 = some u ∧ LeafEq K H p.2 u) ∧ Q (.bl false) H
theorem op_eqT (hu : X.A.units + 66 < cLine) : OpR X (compareOp .Eq) (rEqT X.K) := by
  intro pins s σ H x y v u Q I rx ry ⟨a, b, ks, ls, e1, e2, ha, hb, hlen, hp, q⟩
  subst e1 e2
  cases (show v = Value.ref a from rx)
  cases (show u = Value.ref b from ry)
  obtain ⟨_, ya, xs, ra, da⟩ := dt_of I.hok ha
  obtain ⟨_, yb, ys, rb, db⟩ := dt_of I.hok hb
  exact rcT_dicts (A := X.A) (knd := tupleKind (mixKind X.prog X.w)) (show X.A.in1.units < cLine by show X.A.units + 1 < cLine; omega) ya yb da db (by omega) (by rw [← Paired.length ra, ← Paired.length rb]; exact hlen)
    (hitsT I (fun x y v u f r1 r2 => leaf_eqP I (show X.A.units + 1 + 64 < cLine by omega) f r1 r2) ra rb hp) _ _ ⟨.bl true, H, I, rfl, q⟩
theorem op_neT (hu : X.A.units + 66 < cLine) : OpR X (compareOp .NotEq) (rNeT X.K) := by
  intro pins s σ H x y v u Q I rx ry ⟨a, b, ks, ls, e1, e2, ha, hb, hlen, hp, q⟩
  subst e1 e2
  cases (show v = Value.ref a from rx)
  cases (show u = Value.ref b from ry)
  obtain ⟨_, ya, xs, ra, da⟩ := dt_of I.hok ha
  obtain ⟨_, yb, ys, rb, db⟩ := dt_of I.hok hb
  exact neT_dicts (A := X.A) (knd := tupleKind (mixKind X.prog X.w)) (show X.A.in1.units < cLine by show X.A.units + 1 < cLine; omega) ya yb da db (by omega) (by rw [← Paired.length ra, ← Paired.length rb]; exact hlen)
    (hitsT I (fun x y v u f r1 r2 => leaf_eqP I (show X.A.units + 1 + 64 < cLine by omega) f r1 r2) ra rb hp) _ _ ⟨.bl false, H, I, rfl, q⟩
end
/-! ### keys whose hashes differ: cells of a small grid -/
def gridH (n : Nat) : Int := reduceHash (Builtin.Tuple.tupleHashOf [hashInt (n / 16 : Nat), hashInt (n % 16 : Nat)])
def nodupB : List Int → Bool
  | [] => true
  | x :: r => r.all (fun y => !(x == y)) && nodupB r
theorem nodup_of : ∀ {l : List Int}, nodupB l = true → l.Nodup
  | [], _ => List.nodup_nil
  | x :: r, h => by
    rw [nodupB, Bool.and_eq_true] at h
    refine List.nodup_cons.mpr ⟨fun hx => ?_, nodup_of h.2⟩
    have := List.all_eq_true.mp h.1 x hx
    simp at this
theorem grid_nodup : nodupB ((List.range 256).map gridH) = true := by decide +kernel
theorem grid_hash {P : Program} {w : World} {k : List L2.Key} (h : gridK k = true) : ∃ n, n < 256 ∧ (tupleKind (mixKind P w)).hash k = gridH n ∧ k = [.inl ((n / 16 : Nat) : Int), .inl ((n % 16 : Nat) : Int)] := by
  unfold gridK at h
  split at h
  · rename_i i j
    simp only [Bool.and_eq_true, decide_eq_true_eq] at h
    obtain ⟨⟨⟨h1, h2⟩, h3⟩, h4⟩ := h
    obtain ⟨a, rfl⟩ := Int.eq_ofNat_of_zero_le h1
    obtain ⟨b, rfl⟩ := Int.eq_ofNat_of_zero_le h3
    refine ⟨16 * a + b, by omega, ?_, ?_⟩
    · have e1 : (16 * a + b) / 16 = a := by omega
      have e2 : (16 * a + b) % 16 = b := by omega
      unfold gridH
      rw [e1, e2]
      rfl
    · have e1 : (16 * a + b) / 16 = a := by omega
      have e2 : (16 * a + b) % 16 = b := by omega
      rw [e1, e2]
  · cases h
theorem grid_inj {m n : Nat} (hm : m < 256) (hn : n < 256) (h : gridH m = gridH n) : m = n := by
  have nd := nodup_of grid_nodup
  have e1 : ((List.range 256).map gridH)[m]? = some (gridH m) := by rw [List.getElem?_map, List.getElem?_range hm]; rfl
  have e2 : ((List.range 256).map gridH)[n]? = some (gridH m) := by rw [List.getElem?_map, List.getElem?_range hn, h]; rfl
  exact nd_ix nd e1 e2
theorem grid_apart {P : Program} {w : World} : ∀ {l : List (List L2.Key)}, (∀ k ∈ l, gridK k = true) → l.Nodup → (l.map (tupleKind (mixKind P w)).hash).Nodup
  | [], _, _ => List.nodup_nil
  | k :: r, h, hn => by
    obtain ⟨h1, h2⟩ := List.nodup_cons.mp hn
    rw [List.map_cons]
    refine List.nodup_cons.mpr ⟨fun hx => ?_, grid_apart (fun k hk => h k (List.mem_cons_of_mem _ hk)) h2⟩
    obtain ⟨k2, hk2, e⟩ := List.mem_map.mp hx
    obtain ⟨m, m1, m2, m3⟩ := grid_hash (P := P) (w := w) (h k List.mem_cons_self)
    obtain ⟨n, n1, n2, n3⟩ := grid_hash (P := P) (w := w) (h k2 (List.mem_cons_of_mem _ hk2))
    rw [m2, n2] at e
    have := grid_inj n1 m1 e
    subst this
    rw [← n3] at m3
    subst m3
    exact h1 hk2
section
variable {X : Cx}
theorem cr_copyT (hu : X.A.units + 3 < cLine) : CallR X (.type "dict") (fun xs H Q => ∃ (a : Addr) (kvs : List (List L2.Key × V)), xs = [.ref a] ∧ Rd H a (.dT kvs) ∧ (∀ p ∈ kvs, gridK p.1 = true) ∧ ∀ p, H p = none → Q (.ref p) (upd H p (.dT kvs))) := by
  intro pins s σ H vs us Q I r ⟨a, kvs, e, ha, hg, q⟩
  subst e
  rw [Vals.ref1 r]
  obtain ⟨z, hd, xs, rel, dd⟩ := dt_rd I.hok ha
  have hkeys : kvs.map (·.1) = xs.map (·.1) := by
    have : ∀ {kvs : List (List L2.Key × V)} {xs : List (List L2.Key × Addr × Value)}, KT H kvs xs → kvs.map (·.1) = xs.map (·.1) := by
      intro kvs xs r
      unfold KT at r
      induction r with
      | nil => rfl
      | cons h _ ih => rw [List.map_cons, List.map_cons, ih, h.1]
    exact this rel
  have htup : ∀ x ∈ xs, H x.2.1 = some (.tup (x.1.map kV)) := fun x hx => by
    obtain ⟨i, hi⟩ := List.mem_iff_getElem?.mp hx
    have hl : kvs.length = xs.length := Paired.length rel
    have hk : i < kvs.length := by rw [hl]; exact (List.getElem?_eq_some_iff.mp hi).1
    obtain ⟨y, hy, e1, e2, _⟩ := paired_get rel (List.getElem?_eq_getElem hk)
    rw [hi] at hy
    cases hy
    rw [← e1]
    exact e2
  refine call_copyT (A := X.A) (knd := tupleKind (mixKind X.prog X.w)) (show X.A.in1.in1.units < cLine by show X.A.units + 1 + 1 < cLine; omega) hd dd ⟨fun x hx => ?_, ?_⟩ (by rw [← Paired.length rel]; exact z) (fun h' hk x hx => ?_) fun h' dd' hs => ?_
  · obtain ⟨_, its, _, t⟩ := I.hok _ _ (htup x hx)
    obtain ⟨ob, e, c, _⟩ := t
    exact ⟨ob, e, c⟩
  · have e1 : (xs.map fun x => (tupleKind (mixKind X.prog X.w)).hash x.1) = (kvs.map (·.1)).map (tupleKind (mixKind X.prog X.w)).hash := by
      rw [hkeys, List.map_map]
      rfl
    rw [e1]
    refine grid_apart (fun k hk => ?_) (by rw [hkeys]; exact dd.nodup)
    obtain ⟨p, hp, rfl⟩ := List.mem_map.mp hk
    exact hg p hp
  · exact key_of (I.hok.kept hk) (htup x hx)
  · have hk : ∀ b o, s.heap.get? b = some o → h'.get? b = some o := fun b o e => (hs.2 b (Nat.ne_of_lt (Heap.lt_size e))).trans (Heap.get?_push_of_some _ e)
    have hn := I.hok.fresh (Nat.le_refl s.heap.objs.size)
    refine ⟨.ref s.heap.objs.size, _, I.laid (a := s.heap.objs.size) (o := .dT kvs) (t' := s.toks) hk (Nat.le_refl _) ?_, rfl, q _ hn⟩
    obtain ⟨o, es, ep, g1, g2, g3, g4, g5, g6⟩ := dd'
    exact ⟨z, beq_eq_false_iff_ne.mpr (Ne.symm (Nat.ne_of_lt I.big)), xs, Paired.mapP rel fun p y w => ⟨w.1, by rw [upd_ne (ne_of_none w.2.1 hn)]; exact w.2.1, w.2.2⟩, o, es, ep, g1, g2, g3, g4, g6⟩
end
end Wp

/-! the calculus against the hand layer: operations on values -/
namespace Wp
open PySem PySem.Spec PyProof.Rows L2

/-- what follows, over the hand layer's heap -/
def Post (nm : Nm) (ad : Ad) (K : PySem.W.Frag) (H : Hp) (m : List Addr) (Q : VK) : QD := fun v S' => ∀ x H' m', Ext H m H' m' → Sim nm ad K H' m' S' → Rep K H' m' x v → Q x H'
section
variable {nm : Nm} {ad : Ad} {K : PySem.W.Frag} {H H' H0 : Hp} {m m' m0 : List Addr} {S S' : Sto} {ρ : Env} {Q : VK} {x y : V} {d e : D}
theorem sz16 : sizeLine = 16777216 := sizeLine_eq
theorem Post.go {d : D} {S' : Sto} (h : Post nm ad K H m Q d S') {x : V} {H' : Hp} {m' : List Addr} (e : Ext H m H' m') (s : Sim nm ad K H' m' S') (r : Rep K H' m' x d) : Q x H' := h x H' m' e s r
theorem Post.ext {d : D} {S' : Sto} (h : Post nm ad K H m Q d S') (e : Ext H m H' m') : Post nm ad K H' m' Q d S' := fun x H2 m2 e2 s r => h x H2 m2 (e.trans e2) s r
theorem Post.int {i : Int} (h : Post nm ad K H m Q (.int i) S) (s : Sim nm ad K H m S) : Q (.int i) H := h _ _ _ .refl s (.int i)
theorem Post.bl {i : Bool} (h : Post nm ad K H m Q (.bl i) S) (s : Sim nm ad K H m S) : Q (.bl i) H := h _ _ _ .refl s (.bl i)
theorem Post.str {i : Str} (h : Post nm ad K H m Q (.str i) S) (s : Sim nm ad K H m S) : Q (.str i) H := h _ _ _ .refl s (.str i)
theorem Post.non (h : Post nm ad K H m Q .non S) (s : Sim nm ad K H m S) : Q .non H := h _ _ _ .refl s .non
/-- a new tuple -/
theorem Post.tupN {ds : List D} {vs : List V} (h : Post nm ad K H m Q (.tup ds) S) (s : Sim nm ad K H m S) (r : Reps K H m vs ds) {p : Addr} (hp : H p = none) : Q (.ref p) (upd H p (.tup vs)) :=
  h _ _ _ (ext_new hp) (s.new hp) (.tup (SqT.of upd_same) (r.ext (ext_new hp)))
/-- a new list -/
theorem Post.lstN {ds : List D} {vs : List V} (h : Post nm ad K H m Q (.loc S.length) (S ++ [.lst ds])) (s : Sim nm ad K H m S) (r : Reps K H m vs ds) {p : Addr} (hp : H p = none) : Q (.ref p) (upd H p (.lst vs)) :=
  h _ _ _ (ext_snoc hp) (s.push hp ⟨vs, upd_same, r.ext (ext_snoc hp)⟩) (.loc (by rw [← s.len]; exact get_last))
theorem Rep.int_inv {i : Int} (r : Rep K H m x (.int i)) : x = .int i := by cases r; rfl
theorem Rep.bl_inv {i : Bool} (r : Rep K H m x (.bl i)) : x = .bl i := by cases r; rfl
theorem Rep.str_inv {i : Str} (r : Rep K H m x (.str i)) : x = .str i := by cases r; rfl
theorem Rep.tup_inv {ds : List D} (r : Rep K H m x (.tup ds)) : ∃ a vs, x = .ref a ∧ SqT K H a vs ∧ Reps K H m vs ds := by cases r; exact ⟨_, _, rfl, by assumption, by assumption⟩
theorem Rep.rol_inv {ds : List D} (r : Rep K H m x (.rol ds)) : ∃ a vs, x = .ref a ∧ RolAt K H a vs ∧ Reps K H m vs ds := by cases r; exact ⟨_, _, rfl, by assumption, by assumption⟩
theorem Rep.loc_inv {n : Nat} (r : Rep K H m x (.loc n)) : ∃ a, x = .ref a ∧ m[n]? = some a := by cases r; exact ⟨_, rfl, by assumption⟩
theorem Rep.lst_inv {n : Nat} {xs : List D} (r : Rep K H m x (.loc n)) (s : Sim nm ad K H m S) (h : lstAt S n = some xs) : ∃ a vs, x = .ref a ∧ m[n]? = some a ∧ H a = some (.lst vs) ∧ Reps K H m vs xs := by
  obtain ⟨a, rfl, h1⟩ := r.loc_inv
  obtain ⟨vs, h2, h3⟩ := s.lst h1 h
  exact ⟨a, vs, rfl, h1, h2, h3⟩

theorem Rep.key_inv {ks : List L2.Key} (r : Rep K H m x (.key ks)) : ∃ a, x = .ref a ∧ H a = some (.tup (ks.map kV)) := by cases r; exact ⟨_, rfl, by assumption⟩
theorem keyD_rep {k : L2.Key} : Rep K H m (kV k) (keyD k) := by
  cases k with
  | inl i => exact .int i
  | inr x => exact .str x
theorem keys_rep : ∀ ks : List L2.Key, Reps K H m (ks.map kV) (ks.map keyD)
  | [] => .nil
  | _ :: r => .cons keyD_rep (keys_rep r)
/-- a key is a tuple -/
theorem Rep.key_tup {ks : List L2.Key} (r : Rep K H m x (.key ks)) : Rep K H m x (.tup (ks.map keyD)) := by
  obtain ⟨a, rfl, h⟩ := r.key_inv
  exact .tup (SqT.of h) (keys_rep ks)
theorem keys_dp : ∀ ks : List L2.Key, DpAll K H (ks.map kV) (ks.map keyPy)
  | [] => .nil
  | .inl i :: r => .cons (.int i) (keys_dp r)
  | .inr x :: r => .cons (.str x) (keys_dp r)
theorem Sim.dk (s : Sim nm ad K H m S) {n : Nat} {a : Addr} {kvs : List (L2.Key × D)} (h : m[n]? = some a) (hx : S[n]? = some (.dk kvs)) : ∃ r, H a = some (.dK r) ∧ KReps K H m r kvs := s.obj n _ a hx h
theorem Sim.dt (s : Sim nm ad K H m S) {n : Nat} {a : Addr} {kvs : List (List L2.Key × D)} (h : m[n]? = some a) (hx : S[n]? = some (.dt kvs)) : ∃ r, H a = some (.dT r) ∧ KReps K H m r kvs := s.obj n _ a hx h
theorem Sim.fk (s : Sim nm ad K H m S) {n : Nat} {a : Addr} {kvs : List (L2.Key × D)} (h : m[n]? = some a) (hx : S[n]? = some (.fk kvs)) : ∃ r, (∃ o, H a = some (.frz o (.dK r))) ∧ KReps K H m r kvs := s.obj n _ a hx h
theorem Sim.ft (s : Sim nm ad K H m S) {n : Nat} {a : Addr} {kvs : List (List L2.Key × D)} (h : m[n]? = some a) (hx : S[n]? = some (.ft kvs)) : ∃ r, (∃ o, H a = some (.frz o (.dT r))) ∧ KReps K H m r kvs := s.obj n _ a hx h
theorem dgf_r {R : Option D → Prop} (h : dgfD d e S R) (s : Sim nm ad K H m S) (rx : Rep K H m x d) (ry : Rep K H m y e) : ∃ a o, x = .ref a ∧ DGet H a y o ∧ ∃ r, R r ∧ match r with
    | some d' => ∃ v, o = some v ∧ Rep K H m v d'
    | none => o = none := by
  unfold dgfD at h
  split at h
  · obtain ⟨kvs, h1, h2⟩ := h
    obtain ⟨a, rfl, ha⟩ := rx.loc_inv
    obtain ⟨b, rfl, hb⟩ := ry.key_inv
    obtain ⟨r, g1, g2⟩ := s.ft ha h1
    exact ⟨a, _, rfl, .inr ⟨r, _, b, .inr g1, rfl, hb, rfl⟩, _, h2, g2.val _⟩
  · obtain ⟨kvs, h1, h2⟩ := h
    obtain ⟨a, rfl, ha⟩ := rx.loc_inv
    cases ry.int_inv
    obtain ⟨r, g1, g2⟩ := s.fk ha h1
    exact ⟨a, _, rfl, .inl ⟨r, .inl _, .inr g1, rfl, rfl⟩, _, h2, g2.val _⟩
  · exact h.elim
/-- what a dict holds -/
theorem dg_r {R : Option D → Prop} (h : dgD d e S R) (s : Sim nm ad K H m S) (rx : Rep K H m x d) (ry : Rep K H m y e) : ∃ a o, x = .ref a ∧ DGet H a y o ∧ ∃ r, R r ∧ match r with
    | some d' => ∃ v, o = some v ∧ Rep K H m v d'
    | none => o = none := by
  unfold dgD at h
  split at h
  · obtain ⟨kvs, h1, h2⟩ := h
    obtain ⟨a, rfl, ha⟩ := rx.loc_inv
    obtain ⟨b, rfl, hb⟩ := ry.key_inv
    obtain ⟨r, g1, g2⟩ := s.dt ha h1
    exact ⟨a, _, rfl, DGet.t g1 hb, _, h2, g2.val _⟩
  · obtain ⟨kvs, h1, h2⟩ := h
    obtain ⟨a, rfl, ha⟩ := rx.loc_inv
    cases ry.int_inv
    obtain ⟨r, g1, g2⟩ := s.dk ha h1
    exact ⟨a, _, rfl, DGet.k (k := .inl _) g1, _, h2, g2.val _⟩
  · obtain ⟨kvs, h1, h2⟩ := h
    obtain ⟨a, rfl, ha⟩ := rx.loc_inv
    cases ry.str_inv
    obtain ⟨r, g1, g2⟩ := s.dk ha h1
    exact ⟨a, _, rfl, DGet.k (k := .inr _) g1, _, h2, g2.val _⟩
  · exact h.elim
theorem dp_r {R : Sto → Prop} {z : V} {f : D} (h : dpD d e f S R) (s : Sim nm ad K H m S) (rx : Rep K H m x d) (ry : Rep K H m y e) (rz : Rep K H m z f) : ∃ a H', x = .ref a ∧ DPut H a y z H' ∧ ∃ S', R S' ∧ Ext H m H' m ∧ Sim nm ad K H' m S' := by
  unfold dpD at h
  split at h
  · obtain ⟨kvs, h1, h2, h3⟩ := h
    obtain ⟨a, rfl, ha⟩ := rx.loc_inv
    obtain ⟨b, rfl, hb⟩ := ry.key_inv
    obtain ⟨r, g1, g2⟩ := s.dt ha h1
    exact ⟨a, _, rfl, DPut.t g1 hb (by rw [g2.length, sz16]; exact h2), _, h3, ext_mut (mu_of g1 trivial), s.upd (mu_of g1 trivial) ha ⟨_, upd_same, (g2.put _ rz).ext (ext_mut (mu_of g1 trivial))⟩⟩
  · obtain ⟨kvs, h1, h2, h3⟩ := h
    obtain ⟨a, rfl, ha⟩ := rx.loc_inv
    cases ry.int_inv
    obtain ⟨r, g1, g2⟩ := s.dk ha h1
    exact ⟨a, _, rfl, DPut.k (k := .inl _) g1 (by rw [g2.length, sz16]; exact h2), _, h3, ext_mut (mu_of g1 trivial), s.upd (mu_of g1 trivial) ha ⟨_, upd_same, (g2.put _ rz).ext (ext_mut (mu_of g1 trivial))⟩⟩
  · obtain ⟨kvs, h1, h2, h3⟩ := h
    obtain ⟨a, rfl, ha⟩ := rx.loc_inv
    cases ry.str_inv
    obtain ⟨r, g1, g2⟩ := s.dk ha h1
    exact ⟨a, _, rfl, DPut.k (k := .inr _) g1 (by rw [g2.length, sz16]; exact h2), _, h3, ext_mut (mu_of g1 trivial), s.upd (mu_of g1 trivial) ha ⟨_, upd_same, (g2.put _ rz).ext (ext_mut (mu_of g1 trivial))⟩⟩
  · exact h.elim

/-! ### two-place operators -/
def opOf : Op → Operator
  | .add => .Add | .sub => .Sub | .mul => .Mult | .fdiv => .FloorDiv | .mod => .Mod | .pow => .Pow
def rStrAdd : R2 := fun x y H Q => ∃ i j, x = .str i ∧ y = .str j ∧ i.length + j.length ≤ sizeLine ∧ Q (.str (i ++ j)) H
def rBin (K : PySem.W.Frag) : Op → R2
  | .add => fun x y H Q => rI0 (fun i j => .int (i + j)) x y H Q ∨ rStrAdd x y H Q ∨ rCatT K x y H Q ∨ rCat x y H Q
  | .sub => rI0 fun i j => .int (i - j)
  | .mul => rI IntMulOk fun i j => .int (i * j)
  | .fdiv => rI DivOk fun i j => .int (i.fdiv j)
  | .mod => rI (fun _ j => j ≠ 0) fun i j => .int (i.fmod j)
  | .pow => rI PowOk fun i j => .int (i ^ j.toNat)
theorem opR_bin {X : Cx} (op : Op) : OpR X (binaryOp (opOf op)) (rBin X.K op) := by
  cases op
  · exact op_add.or (op_add_str.or (op_catT.or op_cat))
  · exact op_sub
  · exact opI fun _ _ _ _ _ _ _ hc q => mul_int q hc
  · exact opI fun _ _ _ _ _ _ _ hc q => floordiv_int hc.1 q (.inl hc.2)
  · exact op_modN
  · exact op_pow
theorem int_r {op : Op} {i j : Int} (h : intOp op i j fun k => Post nm ad K H m Q (.int k) S) (s : Sim nm ad K H m S) : rBin K op (.int i) (.int j) H Q := by
  cases op
  · exact .inl ⟨i, j, rfl, rfl, Post.int h s⟩
  · exact ⟨i, j, rfl, rfl, Post.int h s⟩
  · exact ⟨i, j, rfl, rfl, h.1, Post.int h.2 s⟩
  · exact ⟨i, j, rfl, rfl, h.1, Post.int h.2 s⟩
  · exact ⟨i, j, rfl, rfl, h.1, Post.int h.2 s⟩
  · exact ⟨i, j, rfl, rfl, h.1, Post.int h.2 s⟩
theorem bin_r {op : Op} (h : binD op d e S (Post nm ad K H m Q)) (s : Sim nm ad K H m S) (rx : Rep K H m x d) (ry : Rep K H m y e) : rBin K op x y H Q := by
  unfold binD at h
  split at h
  · cases rx.int_inv; cases ry.int_inv
    exact int_r h s
  · rename_i i j
    cases rx.str_inv; cases ry.str_inv
    exact .inr (.inl ⟨i, j, rfl, rfl, by rw [sz16]; exact h.1, Post.str h.2 s⟩)
  · rename_i xs ys
    obtain ⟨a, vs, rfl, h1, h2⟩ := rx.tup_inv
    obtain ⟨b, ws, rfl, h3, h4⟩ := ry.tup_inv
    obtain ⟨n1, n2, q⟩ := h
    refine .inr (.inr (.inl ⟨a, b, vs, ws, rfl, rfl, h1, h3, fun z => n1 ?_, by rw [h2.length, h4.length, sz16]; exact n2, fun z => ?_, fun z p hp => ?_⟩))
    · subst z; cases h2; rfl
    · subst z
      cases h4
      rw [List.append_nil] at q
      exact q _ _ _ .refl s (.tup h1 h2)
    · exact Post.tupN q s (h2.append h4) hp
  · rename_i n k
    obtain ⟨xs, ys, h1, h2, h3, q⟩ := h
    obtain ⟨a, vs, rfl, _, g1, g2⟩ := rx.lst_inv s h1
    obtain ⟨b, ws, rfl, _, g3, g4⟩ := ry.lst_inv s h2
    exact .inr (.inr (.inr ⟨a, b, vs, ws, rfl, rfl, g1, g3, by rw [g2.length, g4.length, sz16]; exact h3, fun p hp => Post.lstN q s (g2.append g4) hp⟩))
  · exact h.elim

/-! ### comparisons -/
mutual
theorem rep_py (s : Sim nm ad K H m S) : ∀ (k : Nat) (d : D) (v : V) (z : PyData), Rep K H m v d → toPy S k d = some z → Dp K H v z
  | k, .non, _, _, r, h => by cases r; cases k <;> (cases h; exact .non)
  | k, .bl b, _, _, r, h => by cases r; cases k <;> (cases h; exact .bl b)
  | k, .int i, _, _, r, h => by cases r; cases k <;> (cases h; exact .int i)
  | k, .str i, _, _, r, h => by cases r; cases k <;> (cases h; exact .str i)
  | k, .key ks, _, _, r, h => by
    obtain ⟨a, rfl, g⟩ := r.key_inv
    cases k <;> (cases h; exact .tup (SqT.of g) (keys_dp ks))
  | 0, .tup xs, _, _, r, h => by simp [toPy] at h
  | 0, .rol xs, _, _, r, h => by simp [toPy] at h
  | 0, .loc n, _, _, r, h => by simp [toPy] at h
  | k + 1, .tup xs, _, z, r, h => by
    obtain ⟨a, vs, rfl, h1, h2⟩ := r.tup_inv
    rw [toPy] at h
    cases hq : toPys S k xs with
    | none => rw [hq] at h; cases h
    | some zs => rw [hq] at h; cases h; exact .tup h1 (reps_py s k xs vs zs h2 hq)
  | k + 1, .rol xs, _, z, r, h => by
    obtain ⟨a, vs, rfl, h1, h2⟩ := r.rol_inv
    rw [toPy] at h
    cases hq : toPys S k xs with
    | none => rw [hq] at h; cases h
    | some zs => rw [hq] at h; cases h; exact .lst h1.sq (reps_py s k xs vs zs h2 hq)
  | k + 1, .loc n, _, z, r, h => by
    rw [toPy] at h
    split at h
    · rename_i xs hx
      have hl : lstAt S n = some xs := by unfold lstAt; rw [hx]
      obtain ⟨a, vs, rfl, _, g1, g2⟩ := r.lst_inv s hl
      cases hq : toPys S k xs with
      | none => rw [hq] at h; cases h
      | some zs => rw [hq] at h; cases h; exact .lst (SqL.of g1) (reps_py s k xs vs zs g2 hq)
    · cases h
theorem reps_py (s : Sim nm ad K H m S) : ∀ (k : Nat) (ds : List D) (vs : List V) (zs : List PyData), Reps K H m vs ds → toPys S k ds = some zs → DpAll K H vs zs
  | k, [], _, _, r, h => by cases r; cases k <;> (cases h; exact .nil)
  | 0, _ :: _, _, _, r, h => by simp [toPys] at h
  | k + 1, d :: ds, _, zs, r, h => by
    cases r with
    | cons r1 r2 =>
      rw [toPys] at h
      split at h
      · rename_i z zs' e1 e2
        cases h
        exact .cons (rep_py s k d _ z r1 e1) (reps_py s k ds _ zs' r2 e2)
      · cases h
end
def copOf : Cop → CmpOp
  | .lt => .Lt | .le => .LtE | .gt => .Gt | .ge => .GtE | .eq => .Eq | .ne => .NotEq | .is_ => .Is | .isn => .IsNot | .in_ => .In | .nin => .NotIn | .deq => .Eq | .dne => .NotEq
def rIsNon : R2 := fun x y H Q => y = .non ∧ Q (.bl (decide (x = .non))) H
def rIsNot : R2 := fun x y H Q => y = .non ∧ Q (.bl (!decide (x = .non))) H
def rDIn : R2 := fun x y H Q => ∃ a o, y = .ref a ∧ DGet H a x o ∧ Q (.bl o.isSome) H
def rDNin : R2 := fun x y H Q => ∃ a o, y = .ref a ∧ DGet H a x o ∧ Q (.bl (!o.isSome)) H
theorem op_din {X : Cx} (hu : X.A.units + 1 < cLine) : OpR X (compareOp .In) rDIn := by
  intro pins s σ H x y v u Q I rx ry ⟨a, o, ey, g, q⟩
  subst ey
  cases ry
  exact d_in hu I g rx fun s' I' => ⟨.bl _, H, I', rfl, q⟩
theorem op_dnin {X : Cx} (hu : X.A.units + 1 < cLine) : OpR X (compareOp .NotIn) rDNin := by
  intro pins s σ H x y v u Q I rx ry ⟨a, o, ey, g, q⟩
  subst ey
  cases ry
  exact d_notIn hu I g rx fun s' I' => ⟨.bl _, H, I', rfl, q⟩
def rCop (K : PySem.W.Frag) : Cop → R2
  | .lt => rI0 fun i j => .bl (decide (i < j))
  | .le => rI0 fun i j => .bl (decide (i ≤ j))
  | .gt => rI0 fun i j => .bl (decide (j < i))
  | .ge => rI0 fun i j => .bl (decide (j ≤ i))
  | .eq => fun x y H Q => rEq x y H Q ∨ rEqD K x y H Q
  | .ne => fun x y H Q => rNe x y H Q ∨ rNeD K x y H Q
  | .is_ => fun x y H Q => rIsNon x y H Q ∨ rIsB x y H Q
  | .isn => fun x y H Q => rIsNot x y H Q ∨ rNotB x y H Q
  | .in_ => fun x y H Q => (rInD K x y H Q ∨ rIn K false x y H Q) ∨ rDIn x y H Q
  | .nin => fun x y H Q => (rNotInD K x y H Q ∨ rIn K true x y H Q) ∨ rDNin x y H Q
  | .deq => fun x y H Q => rEqDA x y H Q ∨ rEqT K x y H Q
  | .dne => fun x y H Q => rNeDA x y H Q ∨ rNeT K x y H Q
theorem opR_cop {X : Cx} (hu : X.A.units + 130 < cLine) (o : Cop) : OpR X (compareOp (copOf o)) (rCop X.K o) := by
  cases o
  · exact op_lt
  · exact op_le
  · exact op_gt
  · exact op_ge
  · exact op_eq.or (op_eqD (by omega))
  · exact op_ne.or (op_neD (by omega))
  · exact op_isN.or op_isBl
  · exact op_notN.or op_notBl
  · exact ((op_inD (by omega)).or op_in_seq).or (op_din (by omega))
  · exact ((op_notInD (by omega)).or op_notIn_seq).or (op_dnin (by omega))
  · exact (op_eq_dictA (by omega)).or (op_eqT (by omega))
  · exact (op_ne_dictA (by omega)).or (op_neT (by omega))
theorem isNon_rep (r : Rep K H m x d) : decide (x = .non) = isNon d := by
  cases r <;> rfl
theorem any_ints (i : Int) : ∀ is : List Int, inV (.int i) (is.map V.int) = is.any fun j => j == i
  | [] => rfl
  | j :: r => by
    have ih := any_ints i r
    unfold inV at *
    rw [List.map_cons, List.any_cons, List.any_cons, ih]
    rfl
theorem flat_ints : ∀ is : List Int, (is.map V.int).all flatV = true
  | [] => rfl
  | _ :: r => by rw [List.map_cons, List.all_cons, flat_ints r]; rfl
theorem reps_ints' : ∀ {vs : List V} {is : List Int}, Reps K H m vs (is.map D.int) → vs = is.map V.int
  | _, [], .nil => rfl
  | _, i :: r, .cons h t => by rw [h.int_inv, reps_ints' t]; rfl
theorem in_r {k : Bool → Prop} (h : inD d e S k) (s : Sim nm ad K H m S) (rx : Rep K H m x d) (ry : Rep K H m y e) : ∃ b, k b ∧
    ((∃ z ds, Dp K H x z ∧ Dp K H y (.list ds) ∧ SeqAt.shaped z = true ∧ SeqAt.shaped (.list ds) = true ∧ b = ds.any fun w => PyData.eqv w z) ∨ (∃ p xs, y = .ref p ∧ (SqL K H p xs ∨ SqT K H p xs) ∧ flatV x = true ∧ xs.all flatV = true ∧ b = inV x xs) ∨ ∃ a o, y = .ref a ∧ DGet H a x o ∧ b = o.isSome) := by
  unfold inD at h
  split at h
  · split at h
    · rename_i n _ xs e
      obtain ⟨f, z, ds, h1, h2, h3, h4, h5⟩ := h
      obtain ⟨a, vs, rfl, _, g1, g2⟩ := ry.lst_inv s (show lstAt S n = some xs by unfold lstAt; rw [e])
      exact ⟨_, h5, .inl ⟨z, ds, rep_py s _ _ _ _ rx h1, .lst (SqL.of g1) (reps_py s _ _ _ _ g2 h2), h3, h4, rfl⟩⟩
    · obtain ⟨a, o, h1, h2, r, h3, h4⟩ := dg_r h s ry rx
      refine ⟨_, h3, .inr (.inr ⟨a, o, h1, h2, ?_⟩)⟩
      cases r with
      | none => rw [show o = none from h4]; rfl
      | some d' => obtain ⟨v, e, _⟩ := h4; rw [e]; rfl
    · obtain ⟨a, o, h1, h2, r, h3, h4⟩ := dg_r h s ry rx
      refine ⟨_, h3, .inr (.inr ⟨a, o, h1, h2, ?_⟩)⟩
      cases r with
      | none => rw [show o = none from h4]; rfl
      | some d' => obtain ⟨v, e, _⟩ := h4; rw [e]; rfl
    · exact h.elim
  · obtain ⟨i, is, rfl, rfl, h⟩ := h
    cases rx.int_inv
    obtain ⟨a, vs, rfl, g1, g2⟩ := ry.tup_inv
    cases reps_ints' g2
    exact ⟨_, h, .inr (.inl ⟨a, _, rfl, .inr g1, rfl, flat_ints is, (any_ints i is).symm⟩)⟩
  · exact h.elim
theorem deq_r {n k : Nat} (h : ∃ a b : List (L2.Key × D), S[n]? = some (.dk a) ∧ S[k]? = some (.dk b) ∧ a.length = b.length ∧ ∀ p ∈ a, ∃ i : Int, p.2 = .int i ∧ valD b p.1 = some (.int i)) (s : Sim nm ad K H m S) (rx : Rep K H m x (.loc n)) (ry : Rep K H m y (.loc k)) : ∃ a b ks ls, x = .ref a ∧ y = .ref b ∧ H a = some (.dK ks) ∧ H b = some (.dK ls) ∧ ks.length = ls.length ∧ ∀ p ∈ ks, valV ls p.1 = some p.2 ∧ flatB p.2 = true := by
  obtain ⟨a, b, h1, h2, h3, h4⟩ := h
  obtain ⟨p, rfl, hp⟩ := rx.loc_inv
  obtain ⟨q, rfl, hq⟩ := ry.loc_inv
  obtain ⟨ks, g1, g2⟩ := s.dk hp h1
  obtain ⟨ls, g3, g4⟩ := s.dk hq h2
  refine ⟨p, q, ks, ls, rfl, rfl, g1, g3, by rw [g2.length, g4.length, h3], ?_⟩
  have key : ∀ {ks : List (L2.Key × V)} {a : List (L2.Key × D)}, KReps K H m ks a → (∀ p ∈ a, ∃ i : Int, p.2 = .int i ∧ valD b p.1 = some (.int i)) → ∀ p ∈ ks, valV ls p.1 = some p.2 ∧ flatB p.2 = true := by
    intro ks a r
    induction r with
    | nil => intro _ p hp; cases hp
    | cons r1 _ ih =>
      intro ha p hp
      rcases List.mem_cons.mp hp with e | hp
      · obtain ⟨i, e1, e2⟩ := ha _ List.mem_cons_self
        subst e
        dsimp only at e1
        subst e1
        obtain ⟨v, e3, e4⟩ := g4.some e2
        have e5 := r1.int_inv
        dsimp only at e3 ⊢
        rw [e3, e4.int_inv, e5]
        exact ⟨rfl, rfl⟩
      · exact ih (fun p hp => ha p (List.mem_cons_of_mem _ hp)) p hp
  exact key g2 h4
theorem deqT_r {n k : Nat} (h : ∃ a b : List (List L2.Key × D), S[n]? = some (.dt a) ∧ S[k]? = some (.dt b) ∧ a.length = b.length ∧ ∀ p ∈ a, ∃ v, valD b p.1 = some v ∧ leafD S p.2 v) (s : Sim nm ad K H m S) (rx : Rep K H m x (.loc n)) (ry : Rep K H m y (.loc k)) :
    ∃ a b ks ls, x = .ref a ∧ y = .ref b ∧ H a = some (.dT ks) ∧ H b = some (.dT ls) ∧ ks.length = ls.length ∧ ∀ p ∈ ks, ∃ u, valV ls p.1 = some u ∧ LeafEq K H p.2 u := by
  obtain ⟨a, b, h1, h2, h3, h4⟩ := h
  obtain ⟨p, rfl, hp⟩ := rx.loc_inv
  obtain ⟨q, rfl, hq⟩ := ry.loc_inv
  obtain ⟨ks, g1, g2⟩ := s.dt hp h1
  obtain ⟨ls, g3, g4⟩ := s.dt hq h2
  refine ⟨p, q, ks, ls, rfl, rfl, g1, g3, by rw [g2.length, g4.length, h3], ?_⟩
  have key : ∀ {ks : List (List L2.Key × V)} {a : List (List L2.Key × D)}, KReps K H m ks a → (∀ p ∈ a, ∃ v, valD b p.1 = some v ∧ leafD S p.2 v) → ∀ p ∈ ks, ∃ u, valV ls p.1 = some u ∧ LeafEq K H p.2 u := by
    intro ks a r
    induction r with
    | nil => intro _ p hp; cases hp
    | cons r1 _ ih =>
      intro ha p hp
      rcases List.mem_cons.mp hp with e | hp
      · obtain ⟨v, e1, f, d, e', t1, t2, t3, t4, t5⟩ := ha _ List.mem_cons_self
        subst e
        obtain ⟨u, e3, e4⟩ := g4.some e1
        exact ⟨u, e3, d, _, rep_py s _ _ _ _ r1 t1, rep_py s _ _ _ _ e4 t2, t3, t4, t5⟩
      · exact ih (fun p hp => ha p (List.mem_cons_of_mem _ hp)) p hp
  exact key g2 h4
theorem cop_r {o : Cop} {k : Bool → Prop} (h : copD o d e S k) (s : Sim nm ad K H m S) (rx : Rep K H m x d) (ry : Rep K H m y e) {Q : VK} (hk : ∀ b, k b → Q (.bl b) H) : rCop K o x y H Q := by
  unfold copD at h
  split at h
  · cases rx.int_inv; cases ry.int_inv
    exact ⟨_, _, rfl, rfl, hk _ h⟩
  · cases rx.int_inv; cases ry.int_inv
    exact ⟨_, _, rfl, rfl, hk _ h⟩
  · cases rx.int_inv; cases ry.int_inv
    exact ⟨_, _, rfl, rfl, hk _ h⟩
  · cases rx.int_inv; cases ry.int_inv
    exact ⟨_, _, rfl, rfl, hk _ h⟩
  · unfold eqD at h
    split at h
    · cases rx.int_inv; cases ry.int_inv
      refine .inl ⟨rfl, ?_⟩
      rw [dec_int]
      exact hk _ h
    · obtain ⟨_, z, w, h1, h2, h3, h4, h5⟩ := h
      exact .inr ⟨z, w, rep_py s _ _ _ _ rx h1, rep_py s _ _ _ _ ry h2, h3, h4, hk _ h5⟩
  · unfold eqD at h
    split at h
    · cases rx.int_inv; cases ry.int_inv
      refine .inl ⟨rfl, ?_⟩
      rw [dec_int]
      exact hk _ h
    · obtain ⟨_, z, w, h1, h2, h3, h4, h5⟩ := h
      exact .inr ⟨z, w, rep_py s _ _ _ _ rx h1, rep_py s _ _ _ _ ry h2, h3, h4, hk _ h5⟩
  · cases ry
    refine .inl ⟨rfl, ?_⟩
    rw [isNon_rep rx]
    exact hk _ h
  · cases ry
    refine .inl ⟨rfl, ?_⟩
    rw [isNon_rep rx]
    exact hk _ h
  · cases rx.bl_inv; cases ry.bl_inv
    exact .inr ⟨_, _, rfl, rfl, hk _ h⟩
  · cases rx.bl_inv; cases ry.bl_inv
    exact .inr ⟨_, _, rfl, rfl, hk _ h⟩
  · obtain ⟨b, kb, z⟩ := in_r h s rx ry
    rcases z with ⟨z, ds, h1, h2, h3, h4, e⟩ | ⟨p, xs, h1, h2, h3, h4, e⟩ | ⟨p, o, h1, h2, e⟩
    · subst e; exact .inl (.inl ⟨z, ds, h1, h2, h3, h4, hk _ kb⟩)
    · subst e; exact .inl (.inr ⟨p, xs, h1, h2, h3, h4, hk _ kb⟩)
    · subst e; exact .inr ⟨p, o, h1, h2, hk _ kb⟩
  · obtain ⟨b, kb, z⟩ := in_r h s rx ry
    rcases z with ⟨z, ds, h1, h2, h3, h4, e⟩ | ⟨p, xs, h1, h2, h3, h4, e⟩ | ⟨p, o, h1, h2, e⟩
    · subst e; exact .inl (.inl ⟨z, ds, h1, h2, h3, h4, hk _ kb⟩)
    · subst e; exact .inl (.inr ⟨p, xs, h1, h2, h3, h4, hk _ kb⟩)
    · subst e; exact .inr ⟨p, o, h1, h2, hk _ kb⟩
  · rcases h.1 with h1 | h1
    · obtain ⟨a, b, ks, ls, e1, e2, e3, e4, e5, e6⟩ := deq_r h1 s rx ry
      exact .inl ⟨a, b, ks, ls, e1, e2, e3, e4, e5, e6, hk _ h.2⟩
    · obtain ⟨a, b, ks, ls, e1, e2, e3, e4, e5, e6⟩ := deqT_r h1 s rx ry
      exact .inr ⟨a, b, ks, ls, e1, e2, e3, e4, e5, e6, hk _ h.2⟩
  · rcases h.1 with h1 | h1
    · obtain ⟨a, b, ks, ls, e1, e2, e3, e4, e5, e6⟩ := deq_r h1 s rx ry
      exact .inl ⟨a, b, ks, ls, e1, e2, e3, e4, e5, e6, hk _ h.2⟩
    · obtain ⟨a, b, ks, ls, e1, e2, e3, e4, e5, e6⟩ := deqT_r h1 s rx ry
      exact .inr ⟨a, b, ks, ls, e1, e2, e3, e4, e5, e6, hk _ h.2⟩
  · exact h.elim

/-! ### truth, indices, slices -/
theorem isEmpty_reps {vs : List V} {ds : List D} (r : Reps K H m vs ds) : vs.isEmpty = ds.isEmpty := by cases r <;> rfl
theorem tru_r {k : Bool → Prop} (h : truD d S k) (s : Sim nm ad K H m S) (rx : Rep K H m x d) : ∃ b, TruV K x H b ∧ k b := by
  unfold truD at h
  split at h
  · cases rx; exact ⟨_, rfl, h⟩
  · cases rx; exact ⟨_, rfl, h⟩
  · cases rx; exact ⟨_, rfl, h⟩
  · obtain ⟨a, vs, rfl, h1, h2⟩ := rx.tup_inv
    exact ⟨_, .inr (.inl ⟨vs, h1, by rw [isEmpty_reps h2]⟩), h⟩
  · obtain ⟨a, vs, rfl, h1, h2⟩ := rx.rol_inv
    exact ⟨_, .inl ⟨vs, h1.sq, by rw [isEmpty_reps h2]⟩, h⟩
  · obtain ⟨xs, h1, h2⟩ := h
    obtain ⟨a, vs, rfl, _, g1, g2⟩ := rx.lst_inv s h1
    exact ⟨_, .inl ⟨vs, SqL.of g1, by rw [isEmpty_reps g2]⟩, h2⟩
  · exact h.elim
theorem atI_reps {vs : List V} {ds : List D} (r : Reps K H m vs ds) {i : Int} {d : D} (h : atI ds i = some d) : ∃ v, atI vs i = some v ∧ Rep K H m v d := by
  unfold atI at h ⊢
  rw [r.length]
  cases e : ixN ds.length i with
  | none => rw [e] at h; cases h
  | some j =>
    rw [e] at h
    obtain ⟨v, h1, h2⟩ := r.get (show ds[j]? = some d from h)
    exact ⟨v, h1, h2⟩
theorem ix_r (h : ixD d e S (Post nm ad K H m Q)) (s : Sim nm ad K H m S) (rx : Rep K H m x d) (ry : Rep K H m y e) : rIx K x y H Q := by
  unfold ixD at h
  split at h
  · cases ry.int_inv
    obtain ⟨v, h1, q⟩ := h
    obtain ⟨a, vs, rfl, g1, g2⟩ := rx.tup_inv
    obtain ⟨w, h2, h3⟩ := atI_reps g2 h1
    exact .inr (.inl ⟨a, vs, _, w, rfl, rfl, g1, h2, q _ _ _ .refl s h3⟩)
  · cases ry.int_inv
    obtain ⟨v, h1, q⟩ := h
    obtain ⟨a, vs, rfl, g1, g2⟩ := rx.rol_inv
    obtain ⟨w, h2, h3⟩ := atI_reps g2 h1
    exact .inl ⟨a, vs, _, w, rfl, rfl, g1.sq, h2, q _ _ _ .refl s h3⟩
  · cases ry.int_inv
    obtain ⟨xs, v, h0, h1, q⟩ := h
    obtain ⟨a, vs, rfl, _, g1, g2⟩ := rx.lst_inv s h0
    obtain ⟨w, h2, h3⟩ := atI_reps g2 h1
    exact .inl ⟨a, vs, _, w, rfl, rfl, SqL.of g1, h2, q _ _ _ .refl s h3⟩
  · cases ry.int_inv
    obtain ⟨v, h1, q⟩ := h
    obtain ⟨a, vs, rfl, g1, g2⟩ := rx.key_tup.tup_inv
    obtain ⟨w, h2, h3⟩ := atI_reps g2 h1
    exact .inr (.inl ⟨a, vs, _, w, rfl, rfl, g1, h2, q _ _ _ .refl s h3⟩)
  · exact h.elim
theorem cut_reps {vs : List V} {ds : List D} (r : Reps K H m vs ds) (lo hi : Option Int) : Reps K H m (cutV vs lo hi) (cutD ds lo hi) := by
  unfold cutV cutD
  rw [r.length]
  exact (r.drop _).take _
theorem sl_r {lo hi : Option Int} (h : slD d lo hi S (Post nm ad K H m Q)) (s : Sim nm ad K H m S) (rx : Rep K H m x d) : rSlT K x lo hi H Q ∨ rSlL K x lo hi H Q ∨ C8.rSlX x lo hi H Q := by
  unfold slD at h
  split at h
  · obtain ⟨a, vs, rfl, g1, g2⟩ := rx.tup_inv
    exact .inl ⟨a, vs, rfl, g1, by rw [g2.length]; exact h.1, fun p hp => Post.tupN h.2 s (cut_reps g2 _ _) hp⟩
  · obtain ⟨a, vs, rfl, g1, g2⟩ := rx.rol_inv
    exact .inr (.inl ⟨a, vs, rfl, g1.sq, fun p hp => Post.lstN h s (cut_reps g2 _ _) hp⟩)
  · obtain ⟨xs, h0, q⟩ := h
    obtain ⟨a, vs, rfl, _, g1, g2⟩ := rx.lst_inv s h0
    exact .inr (.inl ⟨a, vs, rfl, SqL.of g1, fun p hp => Post.lstN q s (cut_reps g2 _ _) hp⟩)
  · cases rx.str_inv
    exact .inr (.inr ⟨_, rfl, by rw [sz16]; exact h.1, Post.str h.2 s⟩)
  · exact h.elim

/-! ### built-ins -/
def bltName : Blt → Str
  | .len => "len" | .abs => "abs" | .min2 => "min" | .max2 => "max" | .all => "all" | .tuple => "tuple" | .list => "list" | .int1 => "int" | .divmod => "divmod" | .sorted => "sorted" | .dlist => "list" | .dcopy => "dict"
def rBlt (K : PySem.W.Frag) : Blt → List V → Hp → VK → Prop
  | .len => fun xs H Q => (∃ p ys, xs = [.ref p] ∧ (SqL K H p ys ∨ SqT K H p ys) ∧ Q (.int ys.length) H) ∨ (∃ z, xs = [.str z] ∧ z.length ≤ sizeLine ∧ Q (.int z.length) H)
  | .abs => fun xs H Q => ∃ i, xs = [.int i] ∧ Q (.int (if i < 0 then -i else i)) H
  | .min2 => fun xs H Q => ∃ i j, xs = [.int i, .int j] ∧ Q (.int (if j < i then j else i)) H
  | .max2 => fun xs H Q => ∃ i j, xs = [.int i, .int j] ∧ Q (.int (if j > i then j else i)) H
  | .all => rAll K
  | .tuple => fun xs H Q => ∃ p ys, xs = [.ref p] ∧ ((SqL K H p ys ∧ ∀ l, H l = none → Q (.ref l) (upd H l (.tup ys))) ∨ (SqT K H p ys ∧ Q (.ref p) H))
  | .list => fun xs H Q => ∃ p ys, xs = [.ref p] ∧ (SqL K H p ys ∨ SqT K H p ys) ∧ ∀ l, H l = none → Q (.ref l) (upd H l (.lst ys))
  | .int1 => fun xs H Q => (∃ i, xs = [.int i] ∧ Q (.int i) H) ∨ ∃ k, xs = [.bl k] ∧ Q (.int (if k then 1 else 0)) H
  | .sorted => fun xs H Q => ∃ (a : Addr) (kvs : List (L2.Key × V)) (ks : List Int), xs = [.ref a] ∧ Rd H a (.dK kvs) ∧ kvs.map (·.1) = ks.map Sum.inl ∧ ks.length < 64 ∧
    ∀ (ys : List Int) (p : Addr), ys.Perm ks → ys.Pairwise (· ≤ ·) → H p = none → Q (.ref p) (upd H p (.lst (ys.map V.int)))
  | .dlist => fun xs H Q => ∃ (a : Addr) (kvs : List (L2.Key × V)), xs = [.ref a] ∧ Rd H a (.dK kvs) ∧ ∀ p, H p = none → Q (.ref p) (upd H p (.lst (kvs.map fun kv => kV kv.1)))
  | .dcopy => fun xs H Q => (∃ (a : Addr) (kvs : List (L2.Key × V)), xs = [.ref a] ∧ Rd H a (.dK kvs) ∧ ∀ p, H p = none → Q (.ref p) (upd H p (.dK kvs))) ∨ ∃ (a : Addr) (kvs : List (List L2.Key × V)), xs = [.ref a] ∧ Rd H a (.dT kvs) ∧ (∀ p ∈ kvs, gridK p.1 = true) ∧ ∀ p, H p = none → Q (.ref p) (upd H p (.dT kvs))
  | .divmod => fun xs H Q => ∃ i j, xs = [.int i, .int j] ∧ CDivP i j ∧ ∀ p, H p = none → Q (.ref p) (upd H p (.tup [.int (i / j), .int (i % j)]))
def bltVal : Blt → Value
  | .len => .builtin "len" | .abs => .builtin "abs" | .min2 => .builtin "min" | .max2 => .builtin "max" | .all => .builtin "all" | .tuple => .type "tuple" | .list => .type "list" | .int1 => .type "int" | .divmod => .builtin "divmod" | .sorted => .builtin "sorted" | .dlist => .type "list" | .dcopy => .type "dict"
theorem callR_blt {X : Cx} (hu : X.A.units + 130 < cLine) (hc : X.calm = true) (b : Blt) : CallR X (bltVal b) (rBlt X.K b) := by
  cases b
  · exact call_len_seq.or call_len_str
  · exact call_abs
  · exact call_min2 hc
  · exact call_max2 hc
  · exact cr_all hc
  · exact call_tuple_of
  · exact call_list_of
  · exact call_int1
  · exact call_divmodW
  · exact call_sortedDI hc
  · exact call_listD hc
  · exact call_dictD.or (cr_copyT (by omega))
theorem Reps.one (r : Reps K H m vs [d]) : ∃ v, vs = [v] ∧ Rep K H m v d := by
  cases r with
  | cons r1 r2 => cases r2; exact ⟨_, rfl, r1⟩
theorem Reps.two {d e : D} (r : Reps K H m vs [d, e]) : ∃ v w, vs = [v, w] ∧ Rep K H m v d ∧ Rep K H m w e := by
  cases r with
  | cons r1 r2 =>
    cases r2 with
    | cons r3 r4 => cases r4; exact ⟨_, _, rfl, r1, r3⟩
theorem reps_bools : ∀ {vs : List V} {ds : List D} {bs : List Bool}, Reps K H m vs ds → bools ds = some bs → vs = bs.map V.bl
  | _, [], bs, .nil, h => by cases h; rfl
  | _, d :: ds, bs, .cons r1 r2, h => by
    unfold bools at h
    split at h
    · rename_i e; cases e
    · rename_i b r e
      cases e
      cases hq : bools ds with
      | none => rw [hq] at h; cases h
      | some bs' =>
        rw [hq] at h; cases h
        cases r1
        rw [reps_bools r2 hq]
        rfl
    · cases h
theorem KReps.kreps : ∀ {r : List (L2.Key × V)} {s : List (L2.Key × D)}, KReps K H m r s → Reps K H m (r.map fun p => kV p.1) (s.map fun p => keyD p.1)
  | _, _, .nil => .nil
  | _, _, .cons h t => .cons keyD_rep (KReps.kreps t)
theorem blt_r {b : Blt} {ds : List D} {vs : List V} (h : bltD b ds S (Post nm ad K H m Q)) (s : Sim nm ad K H m S) (r : Reps K H m vs ds) : rBlt K b vs H Q := by
  unfold bltD at h
  split at h
  · obtain ⟨v, rfl, r1⟩ := r.one
    obtain ⟨a, vs, rfl, g1, g2⟩ := r1.tup_inv
    exact .inl ⟨a, vs, rfl, .inr g1, by rw [g2.length]; exact Post.int h s⟩
  · obtain ⟨v, rfl, r1⟩ := r.one
    obtain ⟨a, vs, rfl, g1, g2⟩ := r1.rol_inv
    exact .inl ⟨a, vs, rfl, .inl g1.sq, by rw [g2.length]; exact Post.int h s⟩
  · obtain ⟨v, rfl, r1⟩ := r.one
    obtain ⟨xs, h0, q⟩ := h
    obtain ⟨a, vs, rfl, _, g1, g2⟩ := r1.lst_inv s h0
    exact .inl ⟨a, vs, rfl, .inl (SqL.of g1), by rw [g2.length]; exact Post.int q s⟩
  · obtain ⟨v, rfl, r1⟩ := r.one
    cases r1.str_inv
    exact .inr ⟨_, rfl, by rw [sz16]; exact h.1, Post.int h.2 s⟩
  · obtain ⟨v, rfl, r1⟩ := r.one
    cases r1.int_inv
    exact ⟨_, rfl, Post.int h s⟩
  · obtain ⟨v, w, rfl, r1, r2⟩ := r.two
    cases r1.int_inv; cases r2.int_inv
    exact ⟨_, _, rfl, Post.int h s⟩
  · obtain ⟨v, w, rfl, r1, r2⟩ := r.two
    cases r1.int_inv; cases r2.int_inv
    exact ⟨_, _, rfl, Post.int h s⟩
  · obtain ⟨v, rfl, r1⟩ := r.one
    obtain ⟨xs, bs, h0, h1, q⟩ := h
    obtain ⟨a, vs, rfl, _, g1, g2⟩ := r1.lst_inv s h0
    exact ⟨a, bs, rfl, by rw [← reps_bools g2 h1]; exact SqL.of g1, Post.bl q s⟩
  · obtain ⟨v, rfl, r1⟩ := r.one
    obtain ⟨a, vs, rfl, g1, g2⟩ := r1.tup_inv
    exact ⟨a, vs, rfl, .inr ⟨g1, h _ _ _ .refl s (.tup g1 g2)⟩⟩
  · obtain ⟨v, rfl, r1⟩ := r.one
    obtain ⟨a, vs, rfl, g1, g2⟩ := r1.rol_inv
    exact ⟨a, vs, rfl, .inl ⟨g1.sq, fun l hl => Post.tupN h s g2 hl⟩⟩
  · obtain ⟨v, rfl, r1⟩ := r.one
    obtain ⟨xs, h0, q⟩ := h
    obtain ⟨a, vs, rfl, _, g1, g2⟩ := r1.lst_inv s h0
    exact ⟨a, vs, rfl, .inl ⟨SqL.of g1, fun l hl => Post.tupN q s g2 hl⟩⟩
  · obtain ⟨v, rfl, r1⟩ := r.one
    obtain ⟨a, vs, rfl, g1, g2⟩ := r1.tup_inv
    exact ⟨a, vs, rfl, .inr g1, fun l hl => Post.lstN h s g2 hl⟩
  · obtain ⟨v, rfl, r1⟩ := r.one
    obtain ⟨a, vs, rfl, g1, g2⟩ := r1.rol_inv
    exact ⟨a, vs, rfl, .inl g1.sq, fun l hl => Post.lstN h s g2 hl⟩
  · obtain ⟨v, rfl, r1⟩ := r.one
    obtain ⟨xs, h0, q⟩ := h
    obtain ⟨a, vs, rfl, _, g1, g2⟩ := r1.lst_inv s h0
    exact ⟨a, vs, rfl, .inl (SqL.of g1), fun l hl => Post.lstN q s g2 hl⟩
  · obtain ⟨v, rfl, r1⟩ := r.one
    cases r1.int_inv
    exact .inl ⟨_, rfl, Post.int h s⟩
  · obtain ⟨v, rfl, r1⟩ := r.one
    cases r1.bl_inv
    exact .inr ⟨_, rfl, Post.int h s⟩
  · obtain ⟨v, rfl, r1⟩ := r.one
    obtain ⟨kvs, is, h1, ⟨h2, h3⟩, q⟩ := h
    obtain ⟨a, rfl, ha⟩ := r1.loc_inv
    obtain ⟨rr, g1, g2⟩ := s.dk ha h1
    refine ⟨a, rr, is, rfl, .inl g1, by rw [g2.keys]; exact h2, h3, fun ys p p1 p2 hp => ?_⟩
    have r2 : ∀ ys : List Int, Reps K H m (ys.map V.int) (ys.map D.int) := fun ys => by
      induction ys with
      | nil => exact .nil
      | cons y r ih => exact .cons (.int y) ih
    exact Post.lstN (q ys p1 p2) s (r2 ys) hp
  · obtain ⟨v, rfl, r1⟩ := r.one
    obtain ⟨kvs, h1, q⟩ := h
    obtain ⟨a, rfl, ha⟩ := r1.loc_inv
    obtain ⟨rr, g1, g2⟩ := s.dk ha h1
    exact ⟨a, rr, rfl, .inl g1, fun p hp => Post.lstN q s g2.kreps hp⟩
  · obtain ⟨v, rfl, r1⟩ := r.one
    obtain ⟨a, rfl, ha⟩ := r1.loc_inv
    rcases h with ⟨kvs, h1, q⟩ | ⟨kvs, h1, h2, q⟩
    · obtain ⟨rr, g1, g2⟩ := s.dk ha h1
      exact .inl ⟨a, rr, rfl, .inl g1, fun p hp => q _ _ _ (ext_snoc hp) (s.push (x := .dk kvs) hp ⟨rr, upd_same, g2.ext (ext_snoc hp)⟩) (.loc (by rw [← s.len]; exact get_last))⟩
    · obtain ⟨rr, g1, g2⟩ := s.dt ha h1
      refine .inr ⟨a, rr, rfl, .inl g1, fun p hp => ?_, fun p hp => q _ _ _ (ext_snoc hp) (s.push (x := .dt kvs) hp ⟨rr, upd_same, g2.ext (ext_snoc hp)⟩) (.loc (by rw [← s.len]; exact get_last))⟩
      have e : p.1 ∈ rr.map (·.1) := List.mem_map.mpr ⟨p, hp, rfl⟩
      rw [g2.keys] at e
      obtain ⟨p2, hp2, e2⟩ := List.mem_map.mp e
      rw [← e2]
      exact h2 p2 hp2
  · obtain ⟨v, w, rfl, r1, r2⟩ := r.two
    cases r1.int_inv; cases r2.int_inv
    exact ⟨_, _, rfl, ⟨h.1, h.2.1⟩, fun p hp => Post.tupN h.2.2 s (.cons (.int _) (.cons (.int _) .nil)) hp⟩
  · exact h.elim
end
end Wp

/-! the calculus against the hand layer: the check of the text, the world, contexts -/
namespace Wp
open PySem PySem.Spec PyProof.Rows L2

/-! ### the check -/
structure Ck where
  N : List Str
  sc : Scope
  fn : Str → Bool
  k : Nat
  calm : Bool
  es : List Nat
def visB (sc : Scope) (x : Str) : Bool := match sc.names.lookup x with
  | some .local => true
  | some .cell => true
  | some .free => true
  | _ => false
def glB (sc : Scope) (x : Str) : Bool := decide (sc.names.lookup x = some .globalImplicit)
def locB (c : Ck) (x : Str) : Bool := match c.sc.names.lookup x with
  | some .local => true
  | some .cell => c.fn x
  | _ => false
def okName (x : Str) : Bool := !(x == ("__debug__" : Str)) && !(x == ("__classdict__" : Str)) && !(x == ("__name__" : Str))
def notStar : Expr → Bool
  | .Starred .. => false
  | _ => true
def notSlice : Expr → Bool
  | .Slice .. => false
  | _ => true
def notSet : Expr → Bool
  | .Set .. => false
  | _ => true
def plainBase : Expr → Bool
  | .Call .. => false
  | _ => true
/-- a call that is no super() -/
def baseOk : Expr → Bool
  | .Call (.Name id _) _ _ _ => !(id == ("super" : Str))
  | _ => true
def notComp : Expr → Bool
  | .ListComp .. => false
  | .SetComp .. => false
  | .DictComp .. => false
  | _ => true
def plainTest : Expr → Bool
  | .UnaryOp .. => false
  | .BoolOp .. => false
  | .IfExp .. => false
  | .Compare .. => false
  | _ => true
def clsName (nm : Nm) : Cl → Option Str
  | .int => some "int" | .bool => some "bool" | .str => some "str" | .tuple => some "tuple" | .list => some "list" | .dict => some "dict"
  | .own C => nm.cls[C]?
def chkCl (nm : Nm) (c : Ck) (cl : Cl) (e : Expr) : Bool := match e with
  | .Name x _ => decide (clsName nm cl = some x) && glB c.sc x && okName x
  | _ => false
def chkCls (nm : Nm) (c : Ck) : List Cl → List Expr → Bool
  | [], [] => true
  | cl :: r, e :: es => chkCl nm c cl e && chkCls nm c r es
  | _, _ => false
def chkXc (nm : Nm) (c : Ck) (cl : XC) (e : Expr) : Bool := match cl, e with
  | .own k, .Name x _ => decide (nm.exn[k]? = some x) && glB c.sc x && okName x
  | .vErr, .Name x _ => decide (x = ("ValueError" : Str)) && nm.ve && glB c.sc x && okName x
  | _, _ => false
def chkXcs (nm : Nm) (c : Ck) : List XC → List Expr → Bool
  | [], [] => true
  | cl :: r, e :: es => chkXc nm c cl e && chkXcs nm c r es
  | _, _ => false
def mtName : Mt → Str
  | .append => "append" | .clear => "clear" | .upper => "upper" | .insert => "insert" | .popAt => "pop" | .extend => "extend" | .dpop1 => "pop" | .dpop2 => "pop" | .dclear => "clear" | .dget1 => "get" | .dget2 => "get"
def chkName (c : Ck) (i : Nat) (e : Expr) : Bool := match e with
  | .Name x _ => decide (c.N[i]? = some x) && locB c x && okName x && !(c.es.contains i)
  | _ => false
def chkNames (c : Ck) : List Nat → List Expr → Bool
  | [], [] => true
  | i :: is, e :: es => chkName c i e && chkNames c is es
  | _, _ => false
def chkTg (c : Ck) (t : Tg) (e : Expr) : Bool := match t, e with
  | .nm i, .Name x _ => decide (c.N[i]? = some x) && locB c x && okName x && !(c.es.contains i)
  | .tp is, .Tuple es _ _ => c.calm && chkNames c is es
  | _, _ => false
def Ck.blk (c : Ck) (scope : Scope) : Ck := { c with sc := relS scope c.sc, fn := fun x => decide (scope.names.lookup x = some .cell) }
def ownOf (N : List Str) (is : List Nat) : List (Str × Nat) := is.map fun i => (N.getD i Str.empty, i)
def itTg (it : It) (t : Expr) : Bool := match it, t with
  | .enum _, .Tuple .. => true
  | .enum _, _ => false
  | .items _, .Tuple .. => true
  | .items _, _ => false
  | _, _ => true
def chkDl : List (Int × Int) → List (Option Expr) → List Expr → Bool
  | [], [], [] => true
  | (i, j) :: r, some (.Constant (.int k) _ _) :: ks, (.Constant (.int v) _ _) :: vs => decide (k = i) && decide (v = j) && chkDl r ks vs
  | _, _, _ => false
section
variable (nm : Nm) (init : Nat → Nat)
mutual
def chkE : E → Ck → Expr → Bool
  | .var i, c, e => match e with
    | .Name x _ => decide (c.N[i]? = some x) && visB c.sc x && okName x && !(c.es.contains i)
    | _ => false
  | .int k, _, e => match e with
    | .Constant (.int j) _ _ => decide (j = k)
    | _ => false
  | .bl b, _, e => match e with
    | .Constant (.bool j) _ _ => decide (j = b)
    | _ => false
  | .str s, _, e => match e with
    | .Constant (.str j) _ _ => decide (j = s)
    | _ => false
  | .non, _, e => match e with
    | .Constant .none _ _ => true
    | _ => false
  | .glob g, c, e => match e with
    | .Name x _ => decide (nm.glb[g]? = some x) && glB c.sc x && okName x
    | _ => false
  | .bin op a b, c, e => match e with
    | .BinOp x o y _ => decide (o = opOf op) && chkE a c x && chkE b c y
    | _ => false
  | .neg a, c, e => match e with
    | .UnaryOp .USub x _ => chkE a c x
    | _ => false
  | .cmp a ops es, c, e => match e with
    | .Compare x os ys _ => c.calm && decide (os = ops.map copOf) && decide (ops.length = ys.length) && !ops.isEmpty && !lastMarks os ys && chkE a c x && chkA es c ys
    | _ => false
  | .ands es, c, e => match e with
    | .BoolOp .And ys _ => !ys.isEmpty && chkA es c ys
    | _ => false
  | .ors es, c, e => match e with
    | .BoolOp .Or ys _ => !ys.isEmpty && chkA es c ys
    | _ => false
  | .notv a, c, e => match e with
    | .UnaryOp .Not x _ => chkE a c x
    | _ => false
  | .ifx t a b, c, e => match e with
    | .IfExp tt x y _ => chkT t c tt && chkE a c x && chkE b c y
    | _ => false
  | .tup es, c, e => match e with
    | .Tuple xs _ _ => decide (xs.length ≤ 1000) && chkA es c xs
    | _ => false
  | .lst es, c, e => match e with
    | .List xs _ => decide (xs.length ≤ 1000) && chkA es c xs
    | _ => false
  | .ix a b, c, e => match e with
    | .Subscript x y _ => chkE a c x && chkE b c y && notSlice y
    | _ => false
  | .sl a lo hi, c, e => match e with
    | .Subscript x (.Slice l h none _) _ => chkE a c x && chkA lo c l.toList && chkA hi c h.toList
    | _ => false
  | .call f es dn, c, e => match e with
    | .Call (.Name x _) xs [] _ => c.calm && decide (nm.fn[f]? = some (some x)) && glB c.sc x && okName x && decide (nm.lv f ≤ c.k) && decide (nm.lv f ≠ 0) && nm.dok f dn && chkA es c xs
    | _ => false
  | .blt b es, c, e => match e with
    | .Call (.Name x _) xs [] _ => c.calm && decide (x = bltName b) && nm.blt b && glB c.sc x && okName x && !xs.isEmpty && chkA es c xs
    | _ => false
  | .make C es dn, c, e => match e with
    | .Call (.Name x _) xs [] _ => c.calm && decide (nm.cls[C]? = some x) && glB c.sc x && okName x && decide (nm.lv (init C) + 1 ≤ c.k) && decide (nm.lv (init C) ≠ 0) && nm.dok (init C) dn && chkA es c xs
    | _ => false
  | .meth m o es dn, c, e => match e with
    | .Call (.Attribute x a apos) xs [] pos => c.calm && decide (nm.flds[m]? = some a) && (apos.endLine == pos.line) && decide (xs.length < 29) && baseOk x && decide (nm.mlv m ≤ c.k) && chkE o c x && chkA es c xs
    | _ => false
  | .bm m o es, c, e => match e with
    | .Call (.Attribute x a apos) xs [] pos => c.calm && decide (a = mtName m) && (apos.endLine == pos.line) && decide (xs.length < 29) && baseOk x && chkE o c x && chkA es c xs
    | _ => false
  | .isa a cs, c, e => match e with
    | .Call (.Name x _) [y, z] [] _ => c.calm && decide (x = ("isinstance" : Str)) && glB c.sc x && chkE a c y && notStar y && !cs.isEmpty && (match z, cs with
      | .Tuple zs _ _, _ => chkCls nm c cs zs && decide (zs.length ≤ 1000)
      | z, [cl] => chkCl nm c cl z
      | _, _ => false)
    | _ => false
  | .lc e' tg it ts, c, e => match e with
    | .ListComp el [⟨t, i, ifs, 0⟩] scope _ => c.calm && c.es.isEmpty && blkC c.N c.sc scope (ownOf c.N tg.slots) && chkI it c i && notSet i && itTg it t && chkTg (c.blk scope) tg t && (tg.slots.all fun j => decide (j < c.N.length) && !(c.es.contains j)) &&
        decide (ifs.length ≤ 1) && chkTs ts (c.blk scope) ifs && chkE e' (c.blk scope) el
    | _ => false
  | .dnew _, _, e => match e with
    | .Dict [] [] _ => true
    | _ => false
  | .dlit kvs, _, e => match e with
    | .Dict ks vs _ => chkDl kvs ks vs && !kvs.isEmpty && decide (kvs.length ≤ 15)
    | _ => false
  | .key es, c, e => match e with
    | .Tuple xs _ _ => decide (xs.length ≤ 1000) && chkA es c xs
    | _ => false
  | .dget a b, c, e => match e with
    | .Subscript x y _ => c.calm && chkE a c x && chkE b c y && notSlice y
    | _ => false
  | .dgetf a b, c, e => match e with
    | .Subscript x y _ => c.calm && chkE a c x && chkE b c y && notSlice y
    | _ => false
  | .methd m f o es, c, e => match e with
    | .Call (.Attribute x a apos) xs [] pos => c.calm && decide (nm.flds[m]? = some a) && (apos.endLine == pos.line) && decide (xs.length < 29) && baseOk x && decide (nm.lv f ≤ c.k) && decide (nm.lv f ≠ 0) && nm.dok f 0 && chkE o c x && chkA es c xs
    | _ => false
  | .callX f i, c, e => match e with
    | .Call (.Name x _) [.Name y _] [] _ => decide (nm.fn[f]? = some (some x)) && glB c.sc x && okName x && decide (c.N[i]? = some y) && visB c.sc y && okName y && c.es.contains i && nm.isx f && decide (nm.lv f ≤ c.k) && decide (nm.lv f ≠ 0)
    | _ => false
  | .make0 C, c, e => match e with
    | .Call (.Name x _) [] [] _ => decide (nm.cls[C]? = some x) && glB c.sc x && okName x && nm.bare C
    | _ => false
  | .isaX i cs, c, e => match e with
    | .Call (.Name x _) [.Name y _, z] [] _ => decide (x = ("isinstance" : Str)) && glB c.sc x && decide (c.N[i]? = some y) && visB c.sc y && okName y && c.es.contains i && (match z, cs with
      | .Tuple zs _ _, _ => chkXcs nm c cs zs && decide (zs.length ≤ 1000)
      | z, [cl] => chkXc nm c cl z
      | _, _ => false)
    | _ => false
  | .fld a f, c, e => match e with
    | .Attribute x a' _ => decide (nm.flds[f]? = some a') && baseOk x && chkE a c x
    | _ => false
def chkA : As → Ck → List Expr → Bool
  | .nil, _, es => es.isEmpty
  | .cons p r, c, es => match es with
    | e :: es => notStar e && chkE p c e && chkA r c es
    | [] => false
def chkT : T → Ck → Expr → Bool
  | .tr p, c, e => plainTest e && chkE p c e
  | .cmp a ops es, c, e => match e with
    | .Compare x os ys _ => c.calm && decide (os = ops.map copOf) && decide (ops.length = ys.length) && !ops.isEmpty && !lastMarks os ys && chkE a c x && chkA es c ys
    | _ => false
  | .ands ts, c, e => match e with
    | .BoolOp .And ys _ => !ys.isEmpty && chkTs ts c ys
    | _ => false
  | .ors ts, c, e => match e with
    | .BoolOp .Or ys _ => !ys.isEmpty && chkTs ts c ys
    | _ => false
  | .nott t, c, e => match e with
    | .UnaryOp .Not x _ => chkT t c x
    | _ => false
def chkTs : Ts → Ck → List Expr → Bool
  | .nil, _, es => es.isEmpty
  | .cons p r, c, es => match es with
    | e :: es => chkT p c e && chkTs r c es
    | [] => false
def chkI : It → Ck → Expr → Bool
  | .over p, c, e => notSet e && (match e with
    | .Call (.Name x _) _ _ _ => !(x == ("range" : Str)) && !(x == ("enumerate" : Str))
    | _ => true) && chkE p c e
  | .rng1 p, c, e => match e with
    | .Call (.Name x _) [y] [] _ => decide (x = ("range" : Str)) && glB c.sc x && notStar y && chkE p c y && nm.blt .len
    | _ => false
  | .rng2 p q, c, e => match e with
    | .Call (.Name x _) [y, z] [] _ => decide (x = ("range" : Str)) && glB c.sc x && notStar y && notStar z && chkE p c y && chkE q c z && nm.blt .len
    | _ => false
  | .enum p, c, e => match e with
    | .Call (.Name x _) [y] [] _ => decide (x = ("enumerate" : Str)) && glB c.sc x && notStar y && chkE p c y && nm.blt .len
    | _ => false
  | .keys p, c, e => chkE p c e
  | .items p, c, e => match e with
    | .Call (.Attribute x a apos) [] [] pos => decide (a = ("items" : Str)) && (apos.endLine == pos.line) && baseOk x && chkE p c x
    | _ => false
end
end

/-! ### the world -/
def spOf (nm : Nm) (ad : Ad) (K : PySem.W.Frag) (c : Ctr) : Sp := fun vs H Q E => ∃ ds S m, Sim nm ad K H m S ∧ Reps K H m vs ds ∧
  c ds S (Post nm ad K H m Q) fun e S' => ∀ H' m', Ext H m H' m' → Sim nm ad K H' m' S' → E (.ref (ad.ex e)) none H'
def xcVal (ad : Ad) : XC → Value
  | .own k => .ref (ad.ex k)
  | .vErr => .type "ValueError"
def clVal (ad : Ad) : Cl → Value
  | .int => .type "int" | .bool => .type "bool" | .str => .type "str" | .tuple => .type "tuple" | .list => .type "list" | .dict => .type "dict" | .own C => .ref (ad.cls C)
def tyVal (ad : Ad) : TyC → Value
  | .non => .type "NoneType" | .int => .type "int" | .bool => .type "bool" | .str => .type "str" | .tuple => .type "tuple" | .list => .type "list" | .dict => .type "dict" | .own C => .ref (ad.cls C)
structure FnF (P : Program) (w : World) (K : PySem.W.Frag) (mg : Str → Option Value) (base : Heap) (nm : Nm) (ad : Ad) (Γ : Tab) (f : Nat) : Prop where
  ex : ∃ fd ps, FnOk P w K mg base (L2.CX P w) (nm.lv f) (ad.fn f) fd ps (spOf nm ad K (Γ.ctr f)) ∧
    ∀ dn, nm.dok f dn = true → ∃ dvs dus, Binds K fd ps dus ∧ Vals dvs dus ∧ ∀ H m, Reps K H m dvs (Γ.dfl f dn)
  kp : PySem.W.keepIn K (.ref (ad.fn f)) = true
/-- a def that is called with the exception that a suite holds -/
structure FnX (P : Program) (w : World) (K : PySem.W.Frag) (mg : Str → Option Value) (base : Heap) (nm : Nm) (ad : Ad) (Γ : Tab) (f : Nat) : Prop where
  ex : ∃ fd ps, Binds K fd ps [] ∧ ps.length = 1 ∧ ∀ (A : Around) (outer : List PySem.Env) (s : Shared) (H : Hp) (args : Args) (Q : VK) (p : Addr × Obj) (j : Nat), L2H.RoomH (nm.lv f) A → L2H.PinOk outer H s p → ExcC K (ad.ex j) → Zc (.ref (ad.ex j)) none p.2 → (∃ vs, p.2.data = .fields vs) →
    Env0 P w K mg base A outer s H → BindsTo s fd args (ps.zip [.ref p.1]) → (∃ S m, Sim nm ad K H m S ∧ Γ.ctr f [.exc j] S (Post nm ad K H m Q) fun _ _ => False) → codeAny (model P w) A (.call (.ref (ad.fn f)) args) (CR (L2.CX P w) outer P w H s Q fun _ _ _ => False) s
  kp : PySem.W.keepIn K (.ref (ad.fn f)) = true
/-- a class whose instances are made without an __init__ of its own -/
structure Bare (K : PySem.W.Frag) (C : Addr) : Prop where
  makes : PySem.W.makesIn K C = true
  oi : PySem.W.findIn K (.ref C) "__init__" = some (some (.builtin "object.__init__"))
  kp : PySem.W.keepIn K (.ref C) = true
/-- of the text: names, classes -/
structure Wn (K : PySem.W.Frag) (mg : Str → Option Value) (nm : Nm) (ad : Ad) (Γ : Tab) : Prop where
  mono : Γ.Mono
  fnd : nm.flds.Nodup
  hat : nm.attr = Γ.attr
  gfn : ∀ (f : Nat) x, nm.fn[f]? = some (some x) → mg x = some (.ref (ad.fn f))
  gcls : ∀ (C : Nat) x, nm.cls[C]? = some x → mg x = some (.ref (ad.cls C))
  gblt : ∀ b, nm.blt b = true → mg (bltName b) = none
  grng : mg "range" = none
  genum : mg "enumerate" = none
  gisa : mg "isinstance" = none
  gty : mg "int" = none ∧ mg "bool" = none ∧ mg "str" = none ∧ mg "tuple" = none ∧ mg "list" = none ∧ mg "dict" = none
  gglb : ∀ (g : Nat) x, nm.glb[g]? = some x → ∃ v u, mg x = some u ∧ RelV v u ∧ ∀ H m, Rep K H m v (Γ.glob g)
  attr : ∀ C f x, nm.attr C f = true → nm.flds[f]? = some x → NoAttr K (ad.cls C) x ∧ Cls K (ad.cls C)
  mth : ∀ C m f x, Γ.mth C m = some f → nm.flds[m]? = some x → Meth K (ad.cls C) x (ad.fn f) ∧ Cls K (ad.cls C) ∧ nm.lv f ≤ nm.mlv m ∧ nm.lv f ≠ 0 ∧ ∀ dn, nm.dok f dn = true
  mthd : ∀ C m f x, Γ.mthd C m f = true → nm.flds[m]? = some x → Meth K (ad.cls C) x (ad.fn f) ∧ Cls K (ad.cls C)
  mak : ∀ (C : Nat) x, nm.cls[C]? = some x → nm.lv (Γ.init C) ≠ 0 → Mk K (ad.cls C) (ad.fn (Γ.init C))
  isa : ∀ t c b, Γ.isa t c = some b → PySem.W.kitOne K (tyVal ad t) (clVal ad c) = some b
  isaO : ∀ C c b, Γ.isa (.own C) c = some b → PySem.W.findIn K (.ref (ad.cls C)) "__class__" = some (some (.builtin "object.__class__")) ∧ PySem.W.specialIn K (.builtin "object.__class__") "__get__" = some (some (.builtin "getset_descriptor.__get__")) ∧
    PySem.W.takesIn K (.builtin "object.__class__") = some true ∧ PySem.W.mroIn K (ad.cls C) (.type "object") = some true ∧ Cls K (ad.cls C)
  bare : ∀ (C : Nat) x, nm.cls[C]? = some x → nm.bare C = true → Bare K (ad.cls C)
  gex : ∀ (k : Nat) x, nm.exn[k]? = some x → mg x = some (.ref (ad.ex k))
  gve : nm.ve = true → mg "ValueError" = none
  exs : ∀ k c b, Γ.exs k c = some b → PySem.W.kitOne K (.ref (ad.ex k)) (xcVal ad c) = some b
  exm : ∀ k C b, Γ.exs k (.own C) = some b → PySem.W.exmOne K (.ref (ad.ex k)) (.ref (ad.ex C)) = some b
  exc : ∀ k c b, Γ.exs k c = some b → ExcC K (ad.ex k)
structure Wo (P : Program) (w : World) (K : PySem.W.Frag) (mg : Str → Option Value) (base : Heap) (nm : Nm) (ad : Ad) (Γ : Tab) (k : Nat) : Prop where
  n : Wn K mg nm ad Γ
  fn : ∀ f, nm.lv f ≠ 0 → nm.lv f ≤ k → FnF P w K mg base nm ad Γ f
  fx : ∀ f, nm.isx f = true → nm.lv f ≠ 0 → nm.lv f ≤ k → FnX P w K mg base nm ad Γ f

/-! ### contexts -/
structure CtxOk (X : Cx) (c : Ck) : Prop where
  N : X.N = c.N
  nd : X.N.Nodup
  sc : X.env.scope = c.sc
  fn : ∀ x, c.fn x = true → X.fn x = true
  calm : c.calm = true → X.calm = true ∧ Room c.k X.A
def WOf (nm : Nm) (ad : Ad) (K : PySem.W.Frag) (H0 : Hp) (m0 : List Addr) (es : Es) (Xc : Nat → Env → Sto → Prop) : WX := fun cls d σ H =>
  ∃ c ρ S m, cls = .ref (ad.ex c) ∧ d = none ∧ SimA nm ad K H0 m0 es σ H ρ S m ∧ Xc c ρ S

section
variable (nm : Nm) (ad : Ad) (K : PySem.W.Frag) (H0 : Hp) (m0 : List Addr) (es : Es) (Xc : Nat → Env → Sto → Prop)
def tE (d : Den) : TE := fun σ H Q => ∃ ρ S m, SimA nm ad K H0 m0 es σ H ρ S m ∧ d ρ S (Post nm ad K H m Q) fun c S' => Xc c ρ S'
def tL (d : DenA) : TA := fun σ H Q => ∃ ρ S m, SimA nm ad K H0 m0 es σ H ρ S m ∧ d ρ S (fun ds S' => ∀ vs H' m', Ext H m H' m' → Sim nm ad K H' m' S' → Reps K H' m' vs ds → Q vs H') fun c S' => Xc c ρ S'
def tB' (d : DenT) : TT := fun σ H Q => ∃ ρ S m, SimA nm ad K H0 m0 es σ H ρ S m ∧ d ρ S (fun b S' => ∀ H' m', Ext H m H' m' → Sim nm ad K H' m' S' → Q b H') fun c S' => Xc c ρ S'
variable {nm ad K H0 m0 es Xc}
variable {σ : L2.St} {H : Hp} {ρ : Env} {S : Sto} {m : List Addr}
theorem tE_of {d : Den} {Q0 : QD} {R : VK} (hm : MonD d) (s : SimA nm ad K H0 m0 es σ H ρ S m) (h : d ρ S Q0 fun c S' => Xc c ρ S')
    (k : ∀ v S1 x H1 m1, Ext H m H1 m1 → SimA nm ad K H0 m0 es σ H1 ρ S1 m1 → Rep K H1 m1 x v → Q0 v S1 → R x H1) : tE nm ad K H0 m0 es Xc d σ H R :=
  ⟨ρ, S, m, s, hm _ _ _ _ _ _ (fun v S1 q x H1 m1 e n r => k v S1 x H1 m1 e (s.step e n) r q) (fun _ _ w => w) h⟩
theorem tB_of {d : DenT} {Q0 : Bool → Sto → Prop} {R : Bool → Hp → Prop} (hm : MonT d) (s : SimA nm ad K H0 m0 es σ H ρ S m) (h : d ρ S Q0 fun c S' => Xc c ρ S')
    (k : ∀ b S1 H1 m1, Ext H m H1 m1 → SimA nm ad K H0 m0 es σ H1 ρ S1 m1 → Q0 b S1 → R b H1) : tB' nm ad K H0 m0 es Xc d σ H R :=
  ⟨ρ, S, m, s, hm _ _ _ _ _ _ (fun v S1 q H1 m1 e n => k v S1 H1 m1 e (s.step e n) q) (fun _ _ w => w) h⟩
theorem _root_.L2.PE.wimp {X : Cx} {e : Expr} {t t' : TE} (h : PE X e t) (w : ∀ σ H Q, t' σ H Q → t σ H Q) : PE X e t' := ⟨fun pins s σ H Q I q => h.run pins s σ H Q I (w σ H Q q)⟩
theorem _root_.L2.PT.wimp {X : Cx} {e : Expr} {t t' : TT} (h : PT X e t) (w : ∀ σ H Q, t' σ H Q → t σ H Q) : PT X e t' := ⟨fun pins s σ H Q I q => h.run pins s σ H Q I (w σ H Q q)⟩
theorem _root_.L2.PA.wimp {X : Cx} {e : List Expr} {t t' : TA} (h : PA X e t) (w : ∀ σ H Q, t' σ H Q → t σ H Q) : PA X e t' := ⟨fun pos pins s σ H Q I q => h.run pos pins s σ H Q I (w σ H Q q)⟩
theorem _root_.L2.PS.wimp {X : Cx} {e : Stmt} {t t' : TS} (h : PS X e t) (w : ∀ D σ H, t' D σ H → t D σ H) : PS X e t' := ⟨fun pins s σ H D I q => h.run pins s σ H D I (w D σ H q)⟩
theorem _root_.L2.PSs.wimp {X : Cx} {e : List Stmt} {t t' : TS} (h : PSs X e t) (w : ∀ D σ H, t' D σ H → t D σ H) : PSs X e t' := ⟨fun pins s σ H D I q => h.run pins s σ H D I (w D σ H q)⟩
end

/-! ### the small facts of the syntax -/
theorem star_of {e : Expr} {es : List Expr} {env : PySem.Env} (h : notStar e = true) : starEach (e :: es) env = (false, eval e env) :: starEach es env := by
  cases e <;> first | rfl | cases h
def allStar : List Expr → Bool
  | [] => true
  | e :: r => notStar e && allStar r
theorem stars_of {env : PySem.Env} : ∀ {es : List Expr}, allStar es = true → (starEach es env) = es.map fun e => (false, eval e env)
  | [], _ => rfl
  | e :: r, h => by
    rw [allStar, Bool.and_eq_true] at h
    rw [star_of h.1, stars_of h.2]
    rfl
theorem noAny_of {env : PySem.Env} {pos : Pos} {es : List Expr} (h : allStar es = true) : (backTo pos (starEach es env)).any (·.1) = false := by
  rw [stars_of h]
  unfold backTo
  induction es with
  | nil => rfl
  | cons e r ih =>
    rw [allStar, Bool.and_eq_true] at h
    simpa using ih h.2
theorem slice_of {e : Expr} (h : notSlice e = true) : PlainIx e := fun o i => by
  cases e <;> first | rfl | cases h
theorem set_of {e : Expr} {env : PySem.Env} (h : notSet e = true) : ∀ x, foldedSetIterable e env x = pure x := fun x => by
  cases e <;> first | rfl | cases h
theorem base_of {e : Expr} {a : Str} {env : PySem.Env} (h : baseOk e = true) : attributeBase e a env (eval e env) = eval e env := by
  cases e with
  | Call f args kws pos =>
    cases f with
    | Name id p =>
      cases args with
      | cons _ _ => rfl
      | nil =>
        cases kws with
        | cons _ _ => rfl
        | nil =>
          have h' : (!(id == ("super" : Str))) = true := h
          have h2 : (id != ("super" : Str)) = true := h'
          unfold attributeBase
          simp only [h2, Bool.true_or, if_true]
    | _ => rfl
  | _ => rfl
theorem comp_of {e : Expr} {t : Option Expr} {l : Nat} {env : PySem.Env} (h : notComp e = true) : swapsWith e t l env = pure false := by
  cases e <;> first | rfl | cases h
theorem test_of {e : Expr} {env : PySem.Env} (h : plainTest e = true) : ∀ whole, isTrue e env whole = (do let v ← whole; standAt e.pos; holding [v] (truthy v)) := fun whole => by
  cases e <;> first | rfl | cases h
section
variable {X : Cx} {c : Ck}
theorem CtxOk.vis (k : CtxOk X c) {x : Str} (h : visB c.sc x = true) : Vis X.env.scope x := by
  rw [k.sc]
  unfold visB at h
  unfold Vis
  split at h
  · exact .inl (by assumption)
  · exact .inr (.inl (by assumption))
  · exact .inr (.inr (by assumption))
  · cases h
theorem CtxOk.gl (k : CtxOk X c) {x : Str} (h : glB c.sc x = true) : Gl X x := by
  unfold Gl Env.kindOf
  rw [k.sc]
  exact of_decide_eq_true h
theorem CtxOk.loc (k : CtxOk X c) {x : Str} (h : locB c x = true) : Loc X.env.scope x ∧ (X.fn x = true ∨ X.env.scope.names.lookup x = some .local) := by
  rw [k.sc]
  unfold locB at h
  split at h
  · exact ⟨.inl (by assumption), .inr (by assumption)⟩
  · exact ⟨.inr (by assumption), .inl (k.fn _ h)⟩
  · cases h
theorem okName_of {x : Str} (h : okName x = true) : (x == ("__debug__" : Str)) = false ∧ (x == ("__classdict__" : Str)) = false ∧ x ≠ "__name__" := by
  unfold okName at h
  simp only [Bool.and_eq_true, Bool.not_eq_true'] at h
  exact ⟨h.1.1, h.1.2, fun e => by rw [e] at h; exact absurd h.2 (by decide)⟩
end
end Wp

/-! the calculus against the hand layer: expressions -/
namespace Wp
open PySem PySem.Spec PyProof.Rows L2

section
variable {X : Cx} {c : Ck} {nm : Nm} {ad : Ad} {Γ : Tab} {H0 : Hp} {m0 : List Addr} {es : Es} {Xc : Nat → Env → Sto → Prop}
variable (X nm ad H0 m0 es Xc) in
inductive SndL : List Den → List Expr → Prop
  | nil : SndL [] []
  | cons {d : Den} {e : Expr} {ds : List Den} {r : List Expr} : PE X e (tE nm ad X.K H0 m0 es Xc d) → notStar e = true → MonD d → SndL ds r → SndL (d :: ds) (e :: r)
variable (X nm ad H0 m0 es Xc) in
inductive SndT : List DenT → List Expr → Prop
  | nil : SndT [] []
  | cons {d : DenT} {e : Expr} {ds : List DenT} {r : List Expr} : PT X e (tB' nm ad X.K H0 m0 es Xc d) → MonT d → SndT ds r → SndT (d :: ds) (e :: r)
theorem SndL.mon : ∀ {ds : List Den} {xs : List Expr}, SndL X nm ad H0 m0 es Xc ds xs → ∀ d ∈ ds, MonD d
  | _, _, .nil => fun d h => absurd h (by simp)
  | _, _, .cons h1 h2 h3 h4 => fun d h => by
    rcases List.mem_cons.mp h with h | h
    · rw [h]; exact h3
    · exact h4.mon d h
theorem SndL.length : ∀ {ds : List Den} {xs : List Expr}, SndL X nm ad H0 m0 es Xc ds xs → ds.length = xs.length
  | _, _, .nil => rfl
  | _, _, .cons h1 h2 h3 h4 => congrArg (· + 1) h4.length
theorem SndL.star : ∀ {ds : List Den} {xs : List Expr}, SndL X nm ad H0 m0 es Xc ds xs → allStar xs = true
  | _, _, .nil => rfl
  | _, _, .cons h1 h2 h3 h4 => by rw [allStar, h2, h4.star]; rfl
theorem SndT.mon : ∀ {ds : List DenT} {xs : List Expr}, SndT X nm ad H0 m0 es Xc ds xs → ∀ d ∈ ds, MonT d
  | _, _, .nil => fun d h => absurd h (by simp)
  | _, _, .cons h1 h3 h4 => fun d h => by
    rcases List.mem_cons.mp h with h | h
    · rw [h]; exact h3
    · exact h4.mon d h
theorem pa_of : ∀ {ds : List Den} {xs : List Expr}, SndL X nm ad H0 m0 es Xc ds xs → PA X xs (tL nm ad X.K H0 m0 es Xc (argsD ds))
  | _, _, .nil => pa_nil.wimp fun σ H Q ⟨ρ, S, m, s, h⟩ => h [] H m .refl s.sim .nil
  | d :: ds, e :: r, .cons h1 h2 h3 h4 => (pa_cons h1 (pa_of h4) (star_of h2)).wimp fun σ H Q ⟨ρ, S, m, s, h⟩ =>
    tE_of h3 s h fun v S1 x H1 m1 e1 s1 r1 q1 => ⟨ρ, S1, m1, s1, argsD_mono h4.mon _ _ _ _ _ _ (fun vs S2 q2 ws H2 m2 e2 s2 r2 => q2 (x :: ws) H2 m2 (e1.trans e2) s2 (.cons (r1.ext e2) r2)) (fun _ _ w => w) q1⟩

theorem argsD_len : ∀ {l : List Den}, (∀ d ∈ l, MonD d) → ∀ ρ S (Q Q' : List D → Sto → Prop) (X X' : XD), (∀ d S, d.length = l.length → Q d S → Q' d S) → (∀ e S, X e S → X' e S) → argsD l ρ S Q X → argsD l ρ S Q' X'
  | [], _ => fun _ _ _ _ _ _ hq _ q => hq _ _ rfl q
  | d :: r, h => fun ρ S Q Q' X X' hq hx q => h d (by simp) ρ S _ _ X X' (fun v S' z => argsD_len (l := r) (fun d hd => h d (List.mem_cons_of_mem _ hd)) ρ S' _ _ X X' (fun _ _ hl w => hq _ _ (congrArg (· + 1) hl) w) hx z) hx q

/-! ### names, constants -/
theorem s_var {i : Nat} {x : Str} {pos : Pos} (hc : CtxOk X c) (hN : c.N[i]? = some x) (hv : visB c.sc x = true) (hn : okName x = true) (he : i ∉ es.1) : PE X (.Name x pos) (tE nm ad X.K H0 m0 es Xc (den Γ (.var i))) :=
  (pe_var (by rw [hc.N]; exact hN) (hc.vis hv) (okName_of hn).1 (okName_of hn).2.1).wimp fun σ H Q ⟨ρ, S, m, s, d, h1, h2⟩ =>
    let ⟨v, h3, h4⟩ := s.at_ i d h1 he
    ⟨v, h3, h2 _ _ _ .refl s.sim h4⟩
theorem s_c {v : V} {d : D} {e : Expr} (h : PE X e (tC v)) (r : ∀ H m, Rep X.K H m v d) : PE X e (tE nm ad X.K H0 m0 es Xc fun _ S Q _ => Q d S) :=
  h.wimp fun σ H Q ⟨ρ, S, m, s, q⟩ => q _ _ _ .refl s.sim (r H m)

/-! ### operators -/
theorem s_bin {op : Op} {a b : Expr} {da db : Den} {pos : Pos} (ha : PE X a (tE nm ad X.K H0 m0 es Xc da)) (hb : PE X b (tE nm ad X.K H0 m0 es Xc db)) (ma : MonD da) (mb : MonD db) :
    PE X (.BinOp a (opOf op) b pos) (tE nm ad X.K H0 m0 es Xc fun ρ S Q Y => da ρ S (fun x S1 => db ρ S1 (fun y S2 => binD op x y S2 Q) Y) Y) :=
  (pe_op (opR_bin op) ha hb).wimp fun σ H Q ⟨ρ, S, m, s, h⟩ => tE_of ma s h fun v S1 x H1 m1 e1 s1 r1 q1 => tE_of mb s1 q1 fun w S2 y H2 m2 e2 s2 r2 q2 =>
    bin_r (binD_mono (fun _ _ p => p.ext (e1.trans e2)) q2) s2.sim (r1.ext e2) r2
theorem s_neg {a : Expr} {da : Den} {pos : Pos} (ha : PE X a (tE nm ad X.K H0 m0 es Xc da)) (ma : MonD da) :
    PE X (.UnaryOp .USub a pos) (tE nm ad X.K H0 m0 es Xc fun ρ S Q Y => da ρ S (fun x S1 => ∃ i, x = .int i ∧ Q (.int (-i)) S1) Y) :=
  (pe_un un_neg ha).wimp fun σ H Q ⟨ρ, S, m, s, h⟩ => tE_of ma s h fun v S1 x H1 m1 e1 s1 r1 ⟨i, ei, q⟩ => by
    subst ei
    cases r1.int_inv
    exact ⟨i, rfl, (q.ext e1).int s1.sim⟩
theorem s_not {a : Expr} {da : Den} {pos : Pos} (ha : PE X a (tE nm ad X.K H0 m0 es Xc da)) (ma : MonD da) :
    PE X (.UnaryOp .Not a pos) (tE nm ad X.K H0 m0 es Xc fun ρ S Q Y => da ρ S (fun x S1 => ∃ b, x = .bl b ∧ Q (.bl (!b)) S1) Y) :=
  (pe_not ha).wimp fun σ H Q ⟨ρ, S, m, s, h⟩ => tE_of ma s h fun v S1 x H1 m1 e1 s1 r1 ⟨i, ei, q⟩ => by
    subst ei
    cases r1.bl_inv
    exact ⟨i, rfl, (q.ext e1).bl s1.sim⟩
theorem s_ands : ∀ {ds : List Den} {xs : List Expr}, xs ≠ [] → SndL X nm ad H0 m0 es Xc ds xs → ∀ {pos : Pos}, PE X (.BoolOp .And xs pos) (tE nm ad X.K H0 m0 es Xc (andsD ds))
  | _, _, hn, .nil => absurd rfl hn
  | [d], [e], _, .cons h1 h2 h3 .nil => (pe_one h1).wimp fun σ H Q ⟨ρ, S, m, s, h⟩ => ⟨ρ, S, m, s, h3 _ _ _ _ _ _ (fun v S1 ⟨b, eb, q⟩ => by subst eb; exact q) (fun _ _ w => w) h⟩
  | d :: d' :: ds, e :: e' :: r, _, .cons h1 h2 h3 (.cons g1 g2 g3 g4) => (pe_and h1 (s_ands (by simp) (.cons g1 g2 g3 g4))).wimp fun σ H Q ⟨ρ, S, m, s, h⟩ =>
    tE_of h3 s h fun v S1 x H1 m1 e1 s1 r1 ⟨b, eb, q⟩ => by
      subst eb
      cases r1.bl_inv
      refine ⟨b, rfl, ?_⟩
      cases b with
      | true => exact ⟨ρ, S1, m1, s1, andsD_mono (SndL.mon (.cons g1 g2 g3 g4)) _ _ _ _ _ _ (fun _ _ p => p.ext e1) (fun _ _ w => w) (q.1 rfl)⟩
      | false => exact ((q.2 rfl).ext e1).bl s1.sim
theorem s_ors : ∀ {ds : List Den} {xs : List Expr}, xs ≠ [] → SndL X nm ad H0 m0 es Xc ds xs → ∀ {pos : Pos}, PE X (.BoolOp .Or xs pos) (tE nm ad X.K H0 m0 es Xc (orsD ds))
  | _, _, hn, .nil => absurd rfl hn
  | [d], [e], _, .cons h1 h2 h3 .nil => (pe_one h1).wimp fun σ H Q ⟨ρ, S, m, s, h⟩ => ⟨ρ, S, m, s, h3 _ _ _ _ _ _ (fun v S1 ⟨b, eb, q⟩ => by subst eb; exact q) (fun _ _ w => w) h⟩
  | d :: d' :: ds, e :: e' :: r, _, .cons h1 h2 h3 (.cons g1 g2 g3 g4) => (pe_or h1 (s_ors (by simp) (.cons g1 g2 g3 g4))).wimp fun σ H Q ⟨ρ, S, m, s, h⟩ =>
    tE_of h3 s h fun v S1 x H1 m1 e1 s1 r1 ⟨b, eb, q⟩ => by
      subst eb
      cases r1.bl_inv
      refine ⟨b, rfl, ?_⟩
      cases b with
      | true => exact ((q.1 rfl).ext e1).bl s1.sim
      | false => exact ⟨ρ, S1, m1, s1, orsD_mono (SndL.mon (.cons g1 g2 g3 g4)) _ _ _ _ _ _ (fun _ _ p => p.ext e1) (fun _ _ w => w) (q.2 rfl)⟩
theorem s_andsT : ∀ {ds : List DenT} {xs : List Expr}, xs ≠ [] → SndT X nm ad H0 m0 es Xc ds xs → ∀ {pos : Pos}, PW X (.BoolOp .And xs pos) (tB' nm ad X.K H0 m0 es Xc (andsT ds))
  | _, _, hn, .nil => absurd rfl hn
  | [d], [e], _, .cons h1 h3 .nil => pw_and1 (h1.wimp fun σ H Q ⟨ρ, S, m, s, h⟩ => ⟨ρ, S, m, s, h3 _ _ _ _ _ _ (fun b S1 q => by cases b with | true => exact q.1 rfl | false => exact q.2 rfl) (fun _ _ w => w) h⟩)
  | d :: d' :: ds, e :: e' :: r, _, .cons h1 h3 (.cons g1 g3 g4) => ⟨fun wh pins s0 σ H Q I q => (pw_and h1 (s_andsT (by simp) (.cons g1 g3 g4))).run wh pins s0 σ H Q I (by
    obtain ⟨ρ, S, m, s, h⟩ := q
    refine tB_of h3 s h fun b S1 H1 m1 e1 s1 q => ?_
    cases b with
    | true => exact ⟨ρ, S1, m1, s1, andsT_mono (SndT.mon (.cons g1 g3 g4)) _ _ _ _ _ _ (fun _ _ p H' m' e n => p H' m' (e1.trans e) n) (fun _ _ w => w) (q.1 rfl)⟩
    | false => exact (q.2 rfl) _ _ e1 s1.sim)⟩
theorem s_orsT : ∀ {ds : List DenT} {xs : List Expr}, xs ≠ [] → SndT X nm ad H0 m0 es Xc ds xs → ∀ {pos : Pos}, PW X (.BoolOp .Or xs pos) (tB' nm ad X.K H0 m0 es Xc (orsT ds))
  | _, _, hn, .nil => absurd rfl hn
  | [d], [e], _, .cons h1 h3 .nil => pw_or1 (h1.wimp fun σ H Q ⟨ρ, S, m, s, h⟩ => ⟨ρ, S, m, s, h3 _ _ _ _ _ _ (fun b S1 q => by cases b with | true => exact q.1 rfl | false => exact q.2 rfl) (fun _ _ w => w) h⟩)
  | d :: d' :: ds, e :: e' :: r, _, .cons h1 h3 (.cons g1 g3 g4) => ⟨fun wh pins s0 σ H Q I q => (pw_or h1 (s_orsT (by simp) (.cons g1 g3 g4))).run wh pins s0 σ H Q I (by
    obtain ⟨ρ, S, m, s, h⟩ := q
    refine tB_of h3 s h fun b S1 H1 m1 e1 s1 q => ?_
    cases b with
    | true => exact (q.1 rfl) _ _ e1 s1.sim
    | false => exact ⟨ρ, S1, m1, s1, orsT_mono (SndT.mon (.cons g1 g3 g4)) _ _ _ _ _ _ (fun _ _ p H' m' e n => p H' m' (e1.trans e) n) (fun _ _ w => w) (q.2 rfl)⟩)⟩
theorem s_nott {a : Expr} {da : DenT} {pos : Pos} (ha : PT X a (tB' nm ad X.K H0 m0 es Xc da)) (ma : MonT da) : PT X (.UnaryOp .Not a pos) (tB' nm ad X.K H0 m0 es Xc fun ρ S Q Y => da ρ S (fun b S1 => Q (!b) S1) Y) :=
  (pt_not ha).wimp fun σ H Q ⟨ρ, S, m, s, h⟩ => tB_of ma s h fun b S1 H1 m1 e1 s1 q => q _ _ e1 s1.sim
theorem s_tr {a : Expr} {da : Den} (ha : PE X a (tE nm ad X.K H0 m0 es Xc da)) (ma : MonD da) (hp : plainTest a = true) : PT X a (tB' nm ad X.K H0 m0 es Xc fun ρ S Q Y => da ρ S (fun x S1 => truD x S1 fun b => Q b S1) Y) :=
  (pt_truth ha (test_of hp)).wimp fun σ H Q ⟨ρ, S, m, s, h⟩ => tE_of ma s h fun v S1 x H1 m1 e1 s1 r1 q =>
    let ⟨b, t, z⟩ := tru_r q s1.sim r1
    ⟨b, t, z _ _ e1 s1.sim⟩
theorem s_ifx {t a b : Expr} {dt : DenT} {da db : Den} {pos : Pos} (ht : PT X t (tB' nm ad X.K H0 m0 es Xc dt)) (ha : PE X a (tE nm ad X.K H0 m0 es Xc da)) (hb : PE X b (tE nm ad X.K H0 m0 es Xc db)) (mt : MonT dt) (ma : MonD da) (mb : MonD db) :
    PE X (.IfExp t a b pos) (tE nm ad X.K H0 m0 es Xc fun ρ S Q Y => dt ρ S (fun k S1 => Br k (da ρ S1 Q Y) (db ρ S1 Q Y)) Y) :=
  (pe_ifExp ht ha hb).wimp fun σ H Q ⟨ρ, S, m, s, h⟩ => tB_of mt s h fun k S1 H1 m1 e1 s1 q => by
    cases k with
    | true => exact ⟨ρ, S1, m1, s1, ma _ _ _ _ _ _ (fun _ _ p => p.ext e1) (fun _ _ w => w) (q.1 rfl)⟩
    | false => exact ⟨ρ, S1, m1, s1, mb _ _ _ _ _ _ (fun _ _ p => p.ext e1) (fun _ _ w => w) (q.2 rfl)⟩
theorem s_tup {ds : List Den} {xs : List Expr} {k : Nat} {pos : Pos} (h : SndL X nm ad H0 m0 es Xc ds xs) (hl : xs.length ≤ 1000) : PE X (.Tuple xs k pos) (tE nm ad X.K H0 m0 es Xc fun ρ S Q Y => argsD ds ρ S (fun vs S1 => Q (.tup vs) S1) Y) := by
  refine ⟨fun pins s0 σ H Q I ⟨ρ, S, m, s, q⟩ => (pe_tup (pa_of h)).run pins s0 σ H Q I ⟨ρ, S, m, s, ?_⟩⟩
  refine argsD_len h.mon _ _ _ _ _ _ (fun vs S1 hl' p ws H1 m1 e1 n r => ⟨?_, fun p' hp' => ?_⟩) (fun _ _ w => w) q
  · rw [r.length, hl', h.length, sz16]; omega
  · exact (p.ext e1).tupN n r hp'
theorem s_lst {ds : List Den} {xs : List Expr} {pos : Pos} (h : SndL X nm ad H0 m0 es Xc ds xs) (hl : xs.length ≤ 1000) : PE X (.List xs pos) (tE nm ad X.K H0 m0 es Xc fun ρ S Q Y => argsD ds ρ S (fun vs S1 => Q (.loc S1.length) (S1 ++ [.lst vs])) Y) := by
  refine ⟨fun pins s0 σ H Q I ⟨ρ, S, m, s, q⟩ => (pe_lst (pa_of h)).run pins s0 σ H Q I ⟨ρ, S, m, s, ?_⟩⟩
  refine argsD_len h.mon _ _ _ _ _ _ (fun vs S1 hl' p ws H1 m1 e1 n r => ⟨?_, fun p' hp' => ?_⟩) (fun _ _ w => w) q
  · rw [r.length, hl', h.length, sz16]; omega
  · exact (p.ext e1).lstN n r hp'
theorem s_ix {a b : Expr} {da db : Den} {pos : Pos} (ha : PE X a (tE nm ad X.K H0 m0 es Xc da)) (hb : PE X b (tE nm ad X.K H0 m0 es Xc db)) (ma : MonD da) (mb : MonD db) (hs : notSlice b = true) :
    PE X (.Subscript a b pos) (tE nm ad X.K H0 m0 es Xc fun ρ S Q Y => da ρ S (fun x S1 => db ρ S1 (fun y S2 => ixD x y S2 Q) Y) Y) :=
  (pe_ix ix_seq ha hb (slice_of hs)).wimp fun σ H Q ⟨ρ, S, m, s, h⟩ => tE_of ma s h fun v S1 x H1 m1 e1 s1 r1 q1 => tE_of mb s1 q1 fun w S2 y H2 m2 e2 s2 r2 q2 =>
    ix_r (ixD_mono (fun _ _ p => p.ext (e1.trans e2)) q2) s2.sim (r1.ext e2) r2
end
end Wp

/-! the calculus against the hand layer: comparisons, slices, calls, attributes -/
namespace Wp
open PySem PySem.Spec PyProof.Rows L2

section
variable {X : Cx} {c : Ck} {nm : Nm} {ad : Ad} {Γ : Tab} {H0 : Hp} {m0 : List Addr} {es : Es} {Xc : Nat → Env → Sto → Prop}

/-! ### comparisons -/
theorem chain_run (hu : X.A.units + 130 < cLine) {pos : Pos} : ∀ {ops : List Cop} {ds : List Den} {ys : List Expr}, ops ≠ [] → SndL X nm ad H0 m0 es Xc ds ys → ops.length = ys.length →
    ∀ (pins : List (Addr × Obj)) (s : Shared) (σ : L2.St) (H : Hp) (ρ : Env) (S : Sto) (m : List Addr) (x : V) (v : Value) (dx : D) (Q0 : Bool → Sto → Prop) (R : Bool → Hp → Prop),
      Inv X pins σ H s → SimA nm ad X.K H0 m0 es σ H ρ S m → RelV x v → Rep X.K H m x dx → chainD ops ds dx ρ S Q0 (fun k S' => Xc k ρ S') →
      (∀ b S' H' m', Ext H m H' m' → SimA nm ad X.K H0 m0 es σ H' ρ S' m' → Q0 b S' → R b H') →
      wpAny (model X.prog X.w) X.A (compareChain pos v (ops.map copOf) (evalEach ys X.env)) (EP X pins σ fun z H' => ∃ b, z = .bl b ∧ R b H') X.xe s
  | [], _, _, hn, _, _ => absurd rfl hn
  | _ :: _, _, [], _, _, hl => by cases hl
  | [o], d :: _, [y], _, .cons h1 h2 h3 h4, _ => fun pins s σ H ρ S m x v dx Q0 R I sm rx rd q k => by
    refine chain_last (thn (h1.run pins s σ H (fun z H' => rCop X.K o x z H' fun w H2 => ∃ b, w = .bl b ∧ R b H2) I (tE_of h3 sm q fun w S1 z H1 m1 e1 s1 r1 q1 => ?_)) fun u s1 ⟨z, H1, I1, r1, q1⟩ => ?_)
    · exact cop_r q1 s1.sim (rd.ext e1) r1 fun b qb => ⟨b, rfl, k b S1 H1 m1 e1 s1 qb⟩
    · exact opR_cop hu o pins s1 σ H1 x z v u _ I1 rx r1 q1
  | [o], _, _ :: _ :: _, _, _, hl => by cases hl
  | o :: o' :: os, _, [y], _, _, hl => by cases hl
  | o :: o' :: os, d :: ds, y :: y' :: ys, _, .cons h1 h2 h3 h4, hl => fun pins s σ H ρ S m x v dx Q0 R I sm rx rd q k => by
    refine chain_link (thn (h1.run pins s σ H (fun z H' => ∃ ρ' S' m' dz, SimA nm ad X.K H0 m0 es σ H' ρ S' m' ∧ Ext H m H' m' ∧ Rep X.K H' m' z dz ∧ copD o dx dz S' fun b => Br b (chainD (o' :: os) ds dz ρ S' Q0 fun k S' => Xc k ρ S') (Q0 false S')) I
      (tE_of h3 sm q fun w S1 z H1 m1 e1 s1 r1 q1 => ⟨ρ, S1, m1, w, s1, e1, r1, q1⟩)) fun u s1 ⟨z, H1, I1, r1, _, S1, m1, dz, sm1, e1, rz, q1⟩ => ?_)
    have hop := cop_r (Q := fun w H2 => H2 = H1 ∧ ∃ b, w = .bl b ∧ Br b (chainD (o' :: os) ds dz ρ S1 Q0 fun k S' => Xc k ρ S') (Q0 false S1)) q1 sm1.sim (rd.ext e1) rz fun b qb => ⟨rfl, b, rfl, qb⟩
    refine thn (opR_cop hu o pins s1 σ H1 x z v u _ I1 rx r1 hop) fun c2 s2 ⟨z2, H2, I2, r2, e2, b, eb, q2⟩ => ?_
    subst e2
    subst eb
    cases r2
    refine wpAny_truthy_bool ?_
    cases b with
    | false => exact ite_ff ⟨.bl false, H2, I2, rfl, false, rfl, k false S1 H2 m1 e1 sm1 (q2.2 rfl)⟩
    | true =>
      refine ite_tt (chain_run hu (by simp) h4 (by simpa using hl) pins s2 σ H2 ρ S1 m1 z u dz Q0 R I2 sm1 r1 rz (q2.1 rfl) fun b S' H' m' e' s' qb => k b S' H' m' (e1.trans e') s' qb)
theorem test_run (hu : X.A.units + 130 < cLine) {pos : Pos} : ∀ {ops : List Cop} {ds : List Den} {ys : List Expr}, ops ≠ [] → SndL X nm ad H0 m0 es Xc ds ys → ops.length = ys.length →
    ∀ (pins : List (Addr × Obj)) (s : Shared) (σ : L2.St) (H : Hp) (ρ : Env) (S : Sto) (m : List Addr) (x : V) (v : Value) (dx : D) (Q0 : Bool → Sto → Prop) (R : Bool → Hp → Prop),
      Inv X pins σ H s → SimA nm ad X.K H0 m0 es σ H ρ S m → RelV x v → Rep X.K H m x dx → chainD ops ds dx ρ S Q0 (fun k S' => Xc k ρ S') →
      (∀ b S' H' m', Ext H m H' m' → SimA nm ad X.K H0 m0 es σ H' ρ S' m' → Q0 b S' → R b H') →
      wpAny (model X.prog X.w) X.A (testChain pos v (ops.map copOf) (evalEach ys X.env)) (TP X pins σ R) X.xe s
  | [], _, _, hn, _, _ => absurd rfl hn
  | _ :: _, _, [], _, _, hl => by cases hl
  | [o], d :: _, [y], _, .cons h1 h2 h3 h4, _ => fun pins s σ H ρ S m x v dx Q0 R I sm rx rd q k => by
    refine test_last (thn (h1.run pins s σ H (fun z H' => rCop X.K o x z H' fun w H2 => ∃ b, w = .bl b ∧ R b H2) I (tE_of h3 sm q fun w S1 z H1 m1 e1 s1 r1 q1 => ?_)) fun u s1 ⟨z, H1, I1, r1, q1⟩ => ?_)
    · exact cop_r q1 s1.sim (rd.ext e1) r1 fun b qb => ⟨b, rfl, k b S1 H1 m1 e1 s1 qb⟩
    · refine thn (opR_cop hu o pins s1 σ H1 x z v u _ I1 rx r1 q1) fun c2 s2 ⟨z2, H2, I2, r2, b, eb, q2⟩ => ?_
      subst eb
      cases r2
      exact wpAny_truthy_bool ⟨H2, I2, q2⟩
  | [o], _, _ :: _ :: _, _, _, hl => by cases hl
  | o :: o' :: os, _, [y], _, _, hl => by cases hl
  | o :: o' :: os, d :: ds, y :: y' :: ys, _, .cons h1 h2 h3 h4, hl => fun pins s σ H ρ S m x v dx Q0 R I sm rx rd q k => by
    refine test_link (thn (h1.run pins s σ H (fun z H' => ∃ ρ' S' m' dz, SimA nm ad X.K H0 m0 es σ H' ρ S' m' ∧ Ext H m H' m' ∧ Rep X.K H' m' z dz ∧ copD o dx dz S' fun b => Br b (chainD (o' :: os) ds dz ρ S' Q0 fun k S' => Xc k ρ S') (Q0 false S')) I
      (tE_of h3 sm q fun w S1 z H1 m1 e1 s1 r1 q1 => ⟨ρ, S1, m1, w, s1, e1, r1, q1⟩)) fun u s1 ⟨z, H1, I1, r1, _, S1, m1, dz, sm1, e1, rz, q1⟩ => ?_)
    have hop := cop_r (Q := fun w H2 => H2 = H1 ∧ ∃ b, w = .bl b ∧ Br b (chainD (o' :: os) ds dz ρ S1 Q0 fun k S' => Xc k ρ S') (Q0 false S1)) q1 sm1.sim (rd.ext e1) rz fun b qb => ⟨rfl, b, rfl, qb⟩
    refine thn (opR_cop hu o pins s1 σ H1 x z v u _ I1 rx r1 hop) fun c2 s2 ⟨z2, H2, I2, r2, e2, b, eb, q2⟩ => ?_
    subst e2
    subst eb
    cases r2
    refine wpAny_truthy_bool ?_
    cases b with
    | false => exact ite_ff ⟨H2, I2, k false S1 H2 m1 e1 sm1 (q2.2 rfl)⟩
    | true =>
      refine ite_tt (test_run hu (by simp) h4 (by simpa using hl) pins s2 σ H2 ρ S1 m1 z u dz Q0 R I2 sm1 r1 rz (q2.1 rfl) fun b S' H' m' e' s' qb => k b S' H' m' (e1.trans e') s' qb)
theorem s_cmp (hu : X.A.units + 130 < cLine) {ops : List Cop} {a : Expr} {da : Den} {ds : List Den} {ys : List Expr} {pos : Pos} (ha : PE X a (tE nm ad X.K H0 m0 es Xc da)) (ma : MonD da) (h : SndL X nm ad H0 m0 es Xc ds ys) (hn : ops ≠ []) (hl : ops.length = ys.length)
    (hm : lastMarks (ops.map copOf) ys = false) : PE X (.Compare a (ops.map copOf) ys pos) (tE nm ad X.K H0 m0 es Xc fun ρ S Q Y => da ρ S (fun x S1 => chainD ops ds x ρ S1 (fun b S2 => Q (.bl b) S2) Y) Y) := by
  refine ⟨fun pins s0 σ H Q I ⟨ρ, S, m, s, q⟩ => ?_⟩
  show wpAny _ _ (do compareChain pos (← eval a X.env) (ops.map copOf) (markedEach (ops.map copOf) ys (evalEach ys X.env))) _ _ _
  rw [markedEach_of_false _ _ _ hm]
  refine wpAny_bind (thn (ha.run pins s0 σ H (fun x H' => ∃ S' m' dx, SimA nm ad X.K H0 m0 es σ H' ρ S' m' ∧ Ext H m H' m' ∧ Rep X.K H' m' x dx ∧ chainD ops ds dx ρ S' (fun b S2 => Post nm ad X.K H m Q (.bl b) S2) fun k S' => Xc k ρ S') I
    (tE_of ma s q fun w S1 z H1 m1 e1 s1 r1 q1 => ⟨S1, m1, w, s1, e1, r1, q1⟩)) fun u s1 ⟨z, H1, I1, r1, S1, m1, dz, sm1, e1, rz, q1⟩ => ?_)
  refine thn (chain_run hu hn h hl pins s1 σ H1 ρ S1 m1 z u dz _ (fun b H' => Q (.bl b) H') I1 sm1 r1 rz q1 fun b S' H' m' e' s' qb => (qb.ext (e1.trans e')).bl s'.sim) fun u2 s2 ⟨z2, H2, I2, r2, b, eb, q2⟩ => ?_
  subst eb
  exact ⟨.bl b, H2, I2, r2, q2⟩
theorem s_cmpT (hu : X.A.units + 130 < cLine) {ops : List Cop} {a : Expr} {da : Den} {ds : List Den} {ys : List Expr} {pos : Pos} (ha : PE X a (tE nm ad X.K H0 m0 es Xc da)) (ma : MonD da) (h : SndL X nm ad H0 m0 es Xc ds ys) (hn : ops ≠ []) (hl : ops.length = ys.length)
    (hm : lastMarks (ops.map copOf) ys = false) : PT X (.Compare a (ops.map copOf) ys pos) (tB' nm ad X.K H0 m0 es Xc fun ρ S Q Y => da ρ S (fun x S1 => chainD ops ds x ρ S1 Q Y) Y) := by
  refine ⟨fun pins s0 σ H Q I ⟨ρ, S, m, s, q⟩ => ?_⟩
  show wpAny _ _ (do testChain pos (← eval a X.env) (ops.map copOf) (markedEach (ops.map copOf) ys (evalEach ys X.env))) _ _ _
  rw [markedEach_of_false _ _ _ hm]
  refine wpAny_bind (thn (ha.run pins s0 σ H (fun x H' => ∃ S' m' dx, SimA nm ad X.K H0 m0 es σ H' ρ S' m' ∧ Ext H m H' m' ∧ Rep X.K H' m' x dx ∧ chainD ops ds dx ρ S' (fun b S' => ∀ H' m', Ext H m H' m' → Sim nm ad X.K H' m' S' → Q b H') fun k S' => Xc k ρ S') I
    (tE_of ma s q fun w S1 z H1 m1 e1 s1 r1 q1 => ⟨S1, m1, w, s1, e1, r1, q1⟩)) fun u s1 ⟨z, H1, I1, r1, S1, m1, dz, sm1, e1, rz, q1⟩ => ?_)
  exact test_run hu hn h hl pins s1 σ H1 ρ S1 m1 z u dz _ Q I1 sm1 r1 rz q1 fun b S' H' m' e' s' qb => qb _ _ (e1.trans e') s'.sim

/-! ### slices -/
theorem po_of {ds : List Den} {o : Option Expr} (h : SndL X nm ad H0 m0 es Xc ds o.toList) : PO X o (fun σ H Q => ∃ ρ S m, SimA nm ad X.K H0 m0 es σ H ρ S m ∧ partD ds ρ S (fun i S' => ∀ H' m', Ext H m H' m' → Sim nm ad X.K H' m' S' → Q i H') fun k S' => Xc k ρ S') := by
  cases o with
  | none =>
    cases h
    exact ⟨fun pins s0 σ H Q I ⟨ρ, S, m, s, q⟩ => po_none.run pins s0 σ H Q I (q _ _ .refl s.sim)⟩
  | some e =>
    cases h with
    | cons h1 h2 h3 h4 =>
      cases h4
      exact ⟨fun pins s0 σ H Q I ⟨ρ, S, m, s, q⟩ => (po_some h1).run pins s0 σ H Q I (tE_of h3 s q fun w S1 z H1 m1 e1 s1 r1 ⟨i, ei, q1⟩ => by
        subst ei
        cases r1.int_inv
        exact ⟨i, rfl, q1 _ _ e1 s1.sim⟩)⟩
theorem s_sl {a : Expr} {da : Den} {dl dh : List Den} {lo hi : Option Expr} {p1 pos : Pos} (ha : PE X a (tE nm ad X.K H0 m0 es Xc da)) (ma : MonD da) (hl : SndL X nm ad H0 m0 es Xc dl lo.toList) (hh : SndL X nm ad H0 m0 es Xc dh hi.toList) :
    PE X (.Subscript a (.Slice lo hi none p1) pos) (tE nm ad X.K H0 m0 es Xc fun ρ S Q Y => da ρ S (fun x S1 => partD dl ρ S1 (fun l S2 => partD dh ρ S2 (fun h S3 => slD x l h S3 Q) Y) Y) Y) :=
  (pe_slice (sl_tup.or (sl_list.or C8.sl_txt)) ha (po_of hl) (po_of hh)).wimp fun σ H Q ⟨ρ, S, m, s, h⟩ => tE_of ma s h fun v S1 x H1 m1 e1 s1 r1 q1 =>
    ⟨ρ, S1, m1, s1, partD_mono hl.mon _ _ _ _ _ _ (fun l S2 q2 H2 m2 e2 n2 => ⟨ρ, S2, m2, s1.step e2 n2, partD_mono hh.mon _ _ _ _ _ _ (fun h S3 q3 H3 m3 e3 n3 =>
      sl_r (slD_mono (fun _ _ p => p.ext ((e1.trans e2).trans e3)) q3) n3 (r1.ext (e2.trans e3))) (fun _ _ w => w) q2⟩) (fun _ _ w => w) q1⟩

/-! ### dicts -/
theorem s_dget (hu : X.A.units + 130 < cLine) {a b : Expr} {da db : Den} {pos : Pos} (ha : PE X a (tE nm ad X.K H0 m0 es Xc da)) (hb : PE X b (tE nm ad X.K H0 m0 es Xc db)) (ma : MonD da) (mb : MonD db) (hs : notSlice b = true) :
    PE X (.Subscript a b pos) (tE nm ad X.K H0 m0 es Xc fun ρ S Q Y => da ρ S (fun x S1 => db ρ S1 (fun y S2 => dgD x y S2 fun r => ∃ v, r = some v ∧ Q v S2) Y) Y) :=
  (pe_dget (by omega) ha hb (slice_of hs)).wimp fun σ H Q ⟨ρ, S, m, s, h⟩ => tE_of ma s h fun v S1 x H1 m1 e1 s1 r1 q1 => tE_of mb s1 q1 fun w S2 y H2 m2 e2 s2 r2 q2 => by
    obtain ⟨p, o, hx, g, r, ⟨v', er, q⟩, hm⟩ := dg_r q2 s2.sim (r1.ext e2) r2
    subst er
    obtain ⟨vv, e, rv⟩ := hm
    subst e
    exact ⟨p, vv, hx, g, q _ _ _ (e1.trans e2) s2.sim rv⟩
theorem s_dgetf (hu : X.A.units + 130 < cLine) {a b : Expr} {da db : Den} {pos : Pos} (ha : PE X a (tE nm ad X.K H0 m0 es Xc da)) (hb : PE X b (tE nm ad X.K H0 m0 es Xc db)) (ma : MonD da) (mb : MonD db) (hs : notSlice b = true) :
    PE X (.Subscript a b pos) (tE nm ad X.K H0 m0 es Xc fun ρ S Q Y => da ρ S (fun x S1 => db ρ S1 (fun y S2 => dgfD x y S2 fun r => ∃ v, r = some v ∧ Q v S2) Y) Y) :=
  (pe_dget (by omega) ha hb (slice_of hs)).wimp fun σ H Q ⟨ρ, S, m, s, h⟩ => tE_of ma s h fun v S1 x H1 m1 e1 s1 r1 q1 => tE_of mb s1 q1 fun w S2 y H2 m2 e2 s2 r2 q2 => by
    obtain ⟨p, o, hx, g, r, ⟨v', er, q⟩, hm⟩ := dgf_r q2 s2.sim (r1.ext e2) r2
    subst er
    obtain ⟨vv, e, rv⟩ := hm
    subst e
    exact ⟨p, vv, hx, g, q _ _ _ (e1.trans e2) s2.sim rv⟩
theorem s_dnew {t : Bool} {pos : Pos} : PE X (.Dict [] [] pos) (tE nm ad X.K H0 m0 es Xc (den Γ (.dnew t))) := by
  cases t with
  | false => exact pe_dnewK.wimp fun σ H Q ⟨ρ, S, m, s, h⟩ p hp => h _ _ _ (ext_snoc hp) (s.sim.push (x := .dk []) hp ⟨[], upd_same, .nil⟩) (.loc (by rw [← s.sim.len]; exact get_last))
  | true => exact pe_dnewT.wimp fun σ H Q ⟨ρ, S, m, s, h⟩ p hp => h _ _ _ (ext_snoc hp) (s.sim.push (x := .dt []) hp ⟨[], upd_same, .nil⟩) (.loc (by rw [← s.sim.len]; exact get_last))
theorem pps_lit {pos : Pos} : ∀ {kvs : List (Int × Int)} {ks : List (Option Expr)} {vs : List Expr}, chkDl kvs ks vs = true → PPs X pos ks vs (kvs.map fun p => (tC (.int p.1), tC (.int p.2))) ∧ ks.all (·.isSome) = true ∧ ks.length = vs.length ∧ ks.length = kvs.length
  | [], [], [], _ => ⟨pps_nil, rfl, rfl, rfl⟩
  | [], [], _ :: _, h => by cases h
  | [], _ :: _, _, h => by cases h
  | p :: r, ks, vs, h => by
    obtain ⟨i, j⟩ := p
    unfold chkDl at h
    split at h
    · rename_i e; cases e
    · rename_i e
      cases e
      simp only [Bool.and_eq_true, decide_eq_true_eq] at h
      obtain ⟨⟨rfl, rfl⟩, h⟩ := h
      obtain ⟨a, b, c, d⟩ := pps_lit h
      exact ⟨pps_cons pe_int pe_int a, by rw [List.all_cons, b]; rfl, congrArg (· + 1) c, congrArg (· + 1) d⟩
    · cases h
theorem pairs_lit {σ : L2.St} {H : Hp} {Q : List (V × V) → Hp → Prop} : ∀ {kvs : List (Int × Int)}, Q (kvs.map fun p => (V.int p.1, V.int p.2)) H → tPairs (kvs.map fun p => (tC (.int p.1), tC (.int p.2))) σ H Q
  | [], h => h
  | p :: r, h => pairs_lit (Q := fun ps H => Q ((V.int p.1, V.int p.2) :: ps) H) h
theorem lit_reps {K : PySem.W.Frag} {H : Hp} {m : List Addr} : ∀ (kvs : List (Int × Int)) {r : List (L2.Key × V)} {s : List (L2.Key × D)}, KReps K H m r s → KReps K H m (mergeK r (kvs.map fun p => (Sum.inl p.1, V.int p.2))) (litD kvs s)
  | [], _, _, h => h
  | p :: t, r, s, h => lit_reps t (r := putK r (Sum.inl p.1) (V.int p.2)) (h.put (.inl p.1) (.int p.2))
theorem s_dlit {kvs : List (Int × Int)} {ks : List (Option Expr)} {vs : List Expr} {pos : Pos} (h : chkDl kvs ks vs = true) (h0 : kvs ≠ []) (h15 : kvs.length ≤ 15) : PE X (.Dict ks vs pos) (tE nm ad X.K H0 m0 es Xc (den Γ (.dlit kvs))) := by
  obtain ⟨a, b, c, d⟩ := pps_lit (X := X) (pos := pos) h
  refine (pe_disp a b c (fun z => h0 (List.eq_nil_of_length_eq_zero (by rw [← d, z]; rfl))) (by omega)).wimp fun σ H Q ⟨ρ, S, m, s, q⟩ p hp => pairs_lit ⟨upd_same, kvs.map fun p => (Sum.inl p.1, V.int p.2), ?_, by rw [List.length_map]; exact h15, ?_⟩
  · rw [List.map_map]; rfl
  · rw [upd_upd]
    exact q _ _ _ (ext_snoc hp) (s.sim.push (x := .dk (litD kvs [])) hp ⟨_, upd_same, lit_reps kvs .nil⟩) (.loc (by rw [← s.sim.len]; exact get_last))
theorem reps_keys {K : PySem.W.Frag} {H : Hp} {m : List Addr} : ∀ {vs : List V} {ds : List D} {ks : List L2.Key}, Reps K H m vs ds → keysOf ds = some ks → vs = ks.map kV
  | _, _, _, .nil, h => by cases h; rfl
  | _, _, ks, .cons (d := d) (ds := ds) r1 r2, h => by
    unfold keysOf at h
    split at h
    · rename_i k kk e1 e2
      cases h
      have t := reps_keys r2 e2
      cases d with
      | int i => cases e1; rw [t, r1.int_inv]; rfl
      | str x => cases e1; rw [t, r1.str_inv]; rfl
      | _ => cases e1
    · cases h
theorem s_key {ds : List Den} {xs : List Expr} {k : Nat} {pos : Pos} (h : SndL X nm ad H0 m0 es Xc ds xs) (hl : xs.length ≤ 1000) : PE X (.Tuple xs k pos) (tE nm ad X.K H0 m0 es Xc fun ρ S Q Y => argsD ds ρ S (fun vs S1 => ∃ ks, keysOf vs = some ks ∧ Q (.key ks) S1) Y) := by
  refine ⟨fun pins s0 σ H Q I ⟨ρ, S, m, s, q⟩ => (pe_tup (pa_of h)).run pins s0 σ H Q I ⟨ρ, S, m, s, ?_⟩⟩
  refine argsD_len h.mon _ _ _ _ _ _ (fun vs S1 hl' ⟨ks, ek, p⟩ ws H1 m1 e1 n r => ⟨?_, fun p' hp' => ?_⟩) (fun _ _ w => w) q
  · rw [r.length, hl', h.length, sz16]; omega
  · refine p _ _ _ (e1.trans (ext_new hp')) (n.new hp') (.key ?_)
    rw [upd_same, reps_keys r ek]

/-! ### calls -/
theorem run_fnD {k : Nat} {f : Addr} {fd : FuncData} {ps : List Str} {sp : Sp} {dvs : List V} {ds : List Value} {E : L2.St → XK} {CX : CXT} {pins : List (Addr × Obj)} {σ : L2.St} {H : Hp} {s : Shared} {Q : VK} {us : List Value} {vs : List V} (F : FnOk X.prog X.w X.K X.mg X.base CX k f fd ps sp) (hr : Room k X.A) (hb : Binds X.K fd ps ds) (hd : Vals dvs ds)
    (hx : PassesAt CX X σ (E σ)) (I : Inv X pins σ H s) (r : Vals vs us) (h : sp (vs ++ dvs) H Q (E σ)) : wpAny (model X.prog X.w) X.A (call (.ref f) us) (EP X pins σ Q) X.xe s := by
  have r2 : Vals (vs ++ dvs) (us ++ ds) := r.append hd
  have hl : (us ++ ds).length = ps.length := by rw [← r2.length]; exact F.len _ _ _ _ h
  refine wpAny_call (codeAny_mono (F.run X.A X.stack s H ⟨us, []⟩ (us ++ ds) (vs ++ dvs) Q (E σ) hr I.env0 (hb s us I.kIn hl) r2 h) fun r s' hq => ?_)
  cases r with
  | error e => exact hx pins H s e s' I hq
  | ok fl =>
    cases fl with
    | ret u => exact I.after hq
    | next => exact False.elim hq
    | brk => exact False.elim hq
    | cont => exact False.elim hq
theorem run_makeD {k : Nat} {f C : Addr} {fd : FuncData} {ps : List Str} {sp : Sp} {dvs : List V} {ds : List Value} {E : L2.St → XK} {CX : CXT} {pins : List (Addr × Obj)} {σ : L2.St} {H : Hp} {s : Shared} {Q : VK} {us : List Value} {vs : List V} (M : Mk X.K C f) (F : FnOk X.prog X.w X.K X.mg X.base CX k f fd ps sp) (hr : Room (k + 1) X.A)
    (hb : Binds X.K fd ps ds) (hd : Vals dvs ds) (hx : PassesAt CX X σ (E σ)) (I : Inv X pins σ H s) (r : Vals vs us)
    (h : ∀ x dx, H x = none → H dx = none → dx ≠ x → sp (.ref x :: (vs ++ dvs)) (upd (upd H dx (.own x)) x (.ins C dx [])) (fun v H2 => v = .non ∧ Q (.ref x) H2) (E σ)) :
    wpAny (model X.prog X.w) X.A (call (.ref C) us) (EP X pins σ Q) X.xe s := by
  have hq := h (s.heap.objs.size + 1) s.heap.objs.size (I.hok.fresh (Nat.le_succ _)) (I.hok.fresh (Nat.le_refl _)) (Nat.ne_of_lt (Nat.lt_succ_self _))
  have I2 := Inv.made (C := C) I
  have r2 : Vals (V.ref (s.heap.objs.size + 1) :: (vs ++ dvs)) (Value.ref (s.heap.objs.size + 1) :: (us ++ ds)) := .cons rfl (r.append hd)
  have hl : (Value.ref (s.heap.objs.size + 1) :: us ++ ds).length = ps.length := by
    have e := r2.length
    rw [F.len _ _ _ _ hq] at e
    exact e.symm
  refine wpAny_call (make_map (f := f) I.kIn M.makes M.init (beq_iff_eq.mp M.fn) (codeAny_mono (F.run _ X.stack _ _ ⟨Value.ref (s.heap.objs.size + 1) :: us, []⟩ (Value.ref (s.heap.objs.size + 1) :: (us ++ ds)) _ _ (E σ) (hr.make C us [])
    (I2.env0.make C us []) (hb _ (Value.ref (s.heap.objs.size + 1) :: us) I2.kIn hl) r2 hq) fun r s' hq' => ?_))
  cases r with
  | error e => exact hx pins _ _ e s' I2 hq'
  | ok fl =>
    cases fl with
    | ret u =>
      obtain ⟨v, H', I3, rv, ev, q3⟩ := I2.after hq'
      subst ev
      exact ⟨rv, ⟨V.ref (s.heap.objs.size + 1), H', I3, rfl, q3⟩⟩
    | next => exact False.elim hq'
    | brk => exact False.elim hq'
    | cont => exact False.elim hq'
theorem wof_call {σ : L2.St} {H : Hp} {ρ : Env} {S : Sto} {m : List Addr} (s : SimA nm ad X.K H0 m0 es σ H ρ S m) {k : Nat} {S' : Sto} (h : Xc k ρ S') {H' : Hp} {m' : List Addr} (e : Ext H m H' m') (n : Sim nm ad X.K H' m' S') :
    WE (WOf nm ad X.K H0 m0 es Xc) σ (.ref (ad.ex k)) none H' := ⟨k, ρ, S', m', rfl, rfl, s.step e n, h⟩
theorem callWith_any {pos : Pos} {f : Value} {first : List Value} {pins : List (Addr × Obj)} {σ : L2.St} {H : Hp} {s : Shared} {Q : Value → Shared → Prop} {ds : List Den} {xs : List Expr} (hk : PySem.W.keepIn X.K f = true) (h : SndL X nm ad H0 m0 es Xc ds xs) (I : Inv X pins σ H s)
    (q : tL nm ad X.K H0 m0 es Xc (argsD ds) σ H fun vs H1 => ∀ us s1, Inv X pins σ H1 s1 → Vals vs us → wpAny (model X.prog X.w) X.A (call f (first ++ us)) Q X.xe s1) :
    wpAny (model X.prog X.w) X.A (callWith pos f first (backTo pos (starEach xs X.env)) (backToKw pos (keywordEach [] X.env))) Q X.xe s := by
  cases h with
  | nil =>
    obtain ⟨ρ, S, m, sm, q⟩ := q
    exact PySem.W.callWith_K0 I.kIn hk (q [] H m .refl sm.sim .nil [] s I .nil)
  | cons h1 h2 h3 h4 =>
    refine PySem.W.callWith_K (h₀ := X.base) I.ok.mod.kin hk (thn ((pa_of (.cons h1 h2 h3 h4)).run pos pins s σ H _ I q) fun us s1 ⟨vs, H1, I1, r, q1⟩ => ⟨I1.kIn, ?_⟩) (star_of h2) (noAny_of h4.star)
    exact q1 us s1 I1 r
theorem s_call {P : Nat} (hw : Wo X.prog X.w X.K X.mg X.base nm ad Γ P) {f dn : Nat} {x : Str} {p pos : Pos} {ds : List Den} {xs : List Expr} (tk : Takes X (WOf nm ad X.K H0 m0 es Xc)) (hr : Room P X.A) (hf : nm.fn[f]? = some (some x)) (hg : Gl X x) (hn : okName x = true) (h0 : nm.lv f ≠ 0) (hl : nm.lv f ≤ P) (hd : nm.dok f dn = true)
    (h : SndL X nm ad H0 m0 es Xc ds xs) : PE X (.Call (.Name x p) xs [] pos) (tE nm ad X.K H0 m0 es Xc fun ρ S Q Y => argsD ds ρ S (fun vs S1 => Γ.ctr f (vs ++ Γ.dfl f dn) S1 Q Y) Y) := by
  refine ⟨fun pins s0 σ H Q I ⟨ρ, S, m, s, q⟩ => ?_⟩
  obtain ⟨⟨fd, ps, F, B⟩, kp⟩ := hw.fn f h0 hl
  obtain ⟨dvs, dus, hb, hv, hrep⟩ := B dn hd
  refine wpAny_Call_Name_kw (ld_glob I hg (hw.n.gfn f x hf) ?_ (okName_of hn).1)
  refine callWith_any kp h I ⟨ρ, S, m, s, argsD_mono h.mon _ _ _ _ _ _ (fun vs S1 q1 ws H1 m1 e1 n1 r1 us s1 I1 rv => ?_) (fun _ _ w => w) q⟩
  refine run_fnD (E := WE (WOf nm ad X.K H0 m0 es Xc)) F (hr.mono hl) hb hv (passAt tk σ) I1 rv ⟨_, S1, m1, n1, r1.append (hrep _ _), ?_⟩
  exact hw.n.mono.ctr f _ _ _ _ _ _ (fun _ _ p => p.ext e1) (fun k S' w H' m' e' n' => wof_call s w (e1.trans e') n') q1
theorem run_bare {X : Cx} {C : Addr} {pins : List (Addr × Obj)} {σ : L2.St} {H : Hp} {s : Shared} {Q : VK} (B : Bare X.K C) (I : Inv X pins σ H s)
    (h : ∀ x dx, H x = none → H dx = none → dx ≠ x → Q (.ref x) (upd (upd H dx (.own x)) x (.ins C dx []))) :
    wpAny (model X.prog X.w) X.A (call (.ref C) []) (EP X pins σ Q) X.xe s := by
  have there := h (s.heap.objs.size + 1) s.heap.objs.size (I.hok.fresh (Nat.le_succ _)) (I.hok.fresh (Nat.le_refl _)) (Nat.ne_of_lt (Nat.lt_succ_self _))
  have made := Inv.made (C := C) I
  have Y := PySem.W.makes_of (M := model X.prog X.w) I.kIn B.makes
  have g1 : ((s.heap.push PySem.W.emptyDict).push (PySem.W.instObj C s.heap.objs.size)).get? (s.heap.objs.size + 1) = some (PySem.W.instObj C s.heap.objs.size) := by
    have z := Heap.get?_push_size (s.heap.push PySem.W.emptyDict) (o := PySem.W.instObj C s.heap.objs.size) rfl
    rwa [Heap.size_push] at z
  have of : PySem.W.Looks (model X.prog X.w) ((s.heap.push PySem.W.emptyDict).push (PySem.W.instObj C s.heap.objs.size)) (typeOf (.ref (s.heap.objs.size + 1))) (.ref C) :=
    fun A Q E s' k q => wpAny_typeOf_ref (k _ _ g1) q
  have is : PySem.W.Looks (model X.prog X.w) ((s.heap.push PySem.W.emptyDict).push (PySem.W.instObj C s.heap.objs.size)) (isInstance (.ref (s.heap.objs.size + 1)) (.type "object")) true :=
    of.andThen (Y.top.keeps fun b o e => Heap.get?_push_of_some _ (Heap.get?_push_of_some _ e))
  refine wpAny_call (make_map0 I.kIn B.makes B.oi (fun self => PySem.W.Looks.of_pure (PySem.W.oi_bind self)) ?_)
  refine codeAny_call_builtin PySem.W.oi_plain PySem.W.entry_oi ?_
  refine @PySem.W.check_slot (model X.prog X.w) _ _ _ "object.__init__" "object" "__init__" _ [] [] _ PySem.W.oi_kind PySem.W.oi_split is (PySem.W.oi_args _) ?_
  rw [PySem.W.oi_run]
  exact wpAny_pure ⟨rfl, V.ref (s.heap.objs.size + 1), _, made, rfl, there⟩
theorem s_make0 (hw : Wn X.K X.mg nm ad Γ) {C : Nat} {x : Str} {p pos : Pos} (hf : nm.cls[C]? = some x) (hg : Gl X x) (hn : okName x = true) (hb : nm.bare C = true) : PE X (.Call (.Name x p) [] [] pos) (tE nm ad X.K H0 m0 es Xc (den Γ (.make0 C))) := by
  refine ⟨fun pins s0 σ H Q I ⟨ρ, S, m, s, q⟩ => ?_⟩
  have B := hw.bare C x hf hb
  refine wpAny_Call_Name_kw (ld_glob I hg (hw.gcls C x hf) ?_ (okName_of hn).1)
  refine PySem.W.callWith_K0 I.kIn B.kp (run_bare B I fun y dy hy hdy ne => ?_)
  have hy2 : (upd H dy (.own y)) y = none := by rw [upd_ne (Ne.symm ne)]; exact hy
  have grown : Ext H m (upd (upd H dy (.own y)) y (.ins (ad.cls C) dy [])) (m ++ [y]) := (ext_new hdy).trans (ext_snoc hy2)
  have hloc : (m ++ [y])[S.length]? = some y := by rw [← s.sim.len]; exact get_last
  exact q _ _ _ grown ((s.sim.new hdy).push hy2 ⟨dy, [], upd_same, .nil⟩) (.loc hloc)
theorem s_make {P : Nat} (hw : Wo X.prog X.w X.K X.mg X.base nm ad Γ P) {C dn : Nat} {x : Str} {p pos : Pos} {ds : List Den} {xs : List Expr} (tk : Takes X (WOf nm ad X.K H0 m0 es Xc)) (hr : Room P X.A) (hf : nm.cls[C]? = some x) (hg : Gl X x) (hn : okName x = true) (h0 : nm.lv (Γ.init C) ≠ 0) (hl : nm.lv (Γ.init C) + 1 ≤ P) (hd : nm.dok (Γ.init C) dn = true)
    (h : SndL X nm ad H0 m0 es Xc ds xs) : PE X (.Call (.Name x p) xs [] pos) (tE nm ad X.K H0 m0 es Xc fun ρ S Q Y => argsD ds ρ S (fun vs S1 => Γ.ctr (Γ.init C) (.loc S1.length :: (vs ++ Γ.dfl (Γ.init C) dn)) (S1 ++ [.ins C []]) (fun v S2 => v = .non ∧ Q (.loc S1.length) S2) Y) Y) := by
  refine ⟨fun pins s0 σ H Q I ⟨ρ, S, m, s, q⟩ => ?_⟩
  obtain ⟨⟨fd, ps, F, B⟩, kp⟩ := hw.fn (Γ.init C) h0 (by omega)
  obtain ⟨dvs, dus, hb, hv, hrep⟩ := B dn hd
  have M := hw.n.mak C x hf h0
  refine wpAny_Call_Name_kw (ld_glob I hg (hw.n.gcls C x hf) ?_ (okName_of hn).1)
  refine callWith_any M.kp h I ⟨ρ, S, m, s, argsD_mono h.mon _ _ _ _ _ _ (fun vs S1 q1 ws H1 m1 e1 n1 r1 us s1 I1 rv => ?_) (fun _ _ w => w) q⟩
  refine run_makeD (E := WE (WOf nm ad X.K H0 m0 es Xc)) M F (hr.mono hl) hb hv (passAt tk σ) I1 rv fun y dy hy hdy ne => ?_
  have hy2 : (upd H1 dy (.own y)) y = none := by rw [upd_ne (Ne.symm ne)]; exact hy
  have e2 : Ext H1 m1 (upd (upd H1 dy (.own y)) y (.ins (ad.cls C) dy [])) (m1 ++ [y]) := (ext_new hdy).trans (ext_snoc hy2)
  have n2 : Sim nm ad X.K (upd (upd H1 dy (.own y)) y (.ins (ad.cls C) dy [])) (m1 ++ [y]) (S1 ++ [.ins C []]) := (n1.new hdy).push hy2 ⟨dy, [], upd_same, .nil⟩
  have hloc : (m1 ++ [y])[S1.length]? = some y := by rw [← n1.len]; exact get_last
  refine ⟨_, _, _, n2, .cons (.loc hloc) ((r1.append (hrep _ _)).ext e2), ?_⟩
  refine hw.n.mono.ctr _ _ _ _ _ _ _ (fun v S2 ⟨ev, p⟩ z H3 m3 e3 n3 r3 => ?_) (fun k S' w H' m' e' n' => wof_call s w ((e1.trans e2).trans e') n') q1
  subst ev
  refine ⟨by cases r3; rfl, p _ _ _ ((e1.trans e2).trans e3) n3 (.loc (e3.pre _ _ hloc))⟩
theorem mcall_of {o : Expr} {a : Str} {apos pos : Pos} {xs : List Expr} {env : PySem.Env} (hb : baseOk o = true) (hl : (apos.endLine == pos.line) = true) (hx : xs.length < 29) (hs : allStar xs = true) :
    ∃ pl, eval (.Call (.Attribute o a apos) xs [] pos) env = (do
      let ov ← eval o env
      standAt apos.atName
      let (f, first) ← holding [ov] (getMethod ov a pl)
      callWith pos f first (backTo pos (starEach xs env)) (backToKw pos (keywordEach [] env))) := by
  refine ⟨(do return (← importBound o env).getD true), ?_⟩
  have few : methodCallForm (xs.length + ([] : List Keyword).length) (backTo pos (starEach xs env)) (backToKw pos (keywordEach [] env)) = true := by
    unfold methodCallForm
    rw [stars_of hs]
    have e1 : (backTo pos (xs.map fun e => (false, eval e env))).all (fun x => !x.1) = true := by
      unfold backTo
      simp [List.all_map]
    rw [e1]
    simp [backToKw, keywordEach]
    omega
  rw [arm_eval_Call, base_of hb]
  congr 1
  funext ov
  congr 1
  funext _
  unfold methodCall
  rw [few]
  unfold calleeOf methodCallPos
  simp only [hl, Bool.not_true, Bool.false_or, if_true]
  congr 1
theorem s_meth {P : Nat} (hw : Wo X.prog X.w X.K X.mg X.base nm ad Γ P) {mth dn : Nat} {a : Str} {o : Expr} {do_ : Den} {apos pos : Pos} {ds : List Den} {xs : List Expr} (tk : Takes X (WOf nm ad X.K H0 m0 es Xc)) (hr : Room P X.A) (hf : nm.flds[mth]? = some a) (hl : nm.mlv mth ≤ P) (hb : baseOk o = true) (hline : (apos.endLine == pos.line) = true) (hx : xs.length < 29)
    (ho : PE X o (tE nm ad X.K H0 m0 es Xc do_)) (mo : MonD do_) (h : SndL X nm ad H0 m0 es Xc ds xs) : PE X (.Call (.Attribute o a apos) xs [] pos) (tE nm ad X.K H0 m0 es Xc fun ρ S Q Y =>
      do_ ρ S (fun x S1 => ∃ n C fs f, x = .loc n ∧ S1[n]? = some (.ins C fs) ∧ fs.lookup mth = none ∧ Γ.mth C mth = some f ∧ argsD ds ρ S1 (fun vs S2 => Γ.ctr f (x :: (vs ++ Γ.dfl f dn)) S2 Q Y) Y) Y) := by
  refine ⟨fun pins s0 σ H Q I ⟨ρ, S, m, s, q⟩ => ?_⟩
  obtain ⟨pl, ht⟩ := mcall_of (a := a) (env := X.env) hb hline hx h.star
  refine PySem.W.methodCall_KW (pl := pl) (thn (ho.run pins s0 σ H (fun x H' => ∃ S1 m1 dx, SimA nm ad X.K H0 m0 es σ H' ρ S1 m1 ∧ Ext H m H' m1 ∧ Rep X.K H' m1 x dx ∧ ∃ n C fs f, dx = .loc n ∧ S1[n]? = some (.ins C fs) ∧ fs.lookup mth = none ∧ Γ.mth C mth = some f ∧
      argsD ds ρ S1 (fun vs S2 => Γ.ctr f (dx :: (vs ++ Γ.dfl f dn)) S2 (Post nm ad X.K H m Q) fun k S' => Xc k ρ S') fun k S' => Xc k ρ S') I
    (tE_of mo s q fun w S1 z H1 m1 e1 s1 r1 q1 => ⟨S1, m1, w, s1, e1, r1, q1⟩)) fun u s1 ⟨z, H1, I1, r1, S1, m1, dz, sm1, e1, rz, n, C, fs, f, en, eC, ef, em, q1⟩ => ?_) ht
  subst en
  obtain ⟨p, rfl, hp⟩ := rz.loc_inv
  cases r1
  obtain ⟨dx, fvs, hH, hfs⟩ : RepO nm ad X.K H1 m1 p (.ins C fs) := sm1.sim.obj n _ p eC hp
  obtain ⟨M, hC, l1, l0, dk⟩ := hw.n.mth C mth f a em hf
  have lk := hfs.look hw.n.fnd hf
  rw [ef] at lk
  obtain ⟨⟨fd, ps, F, B⟩, kp⟩ := hw.fn f l0 (Nat.le_trans l1 hl)
  obtain ⟨dvs, dus, hb, hv, hrep⟩ := B dn (dk dn)
  refine getmeth_ok I1 hH hC M lk ?_
  refine callWith_any (first := [.ref p]) M.kp h I1 ⟨ρ, S1, m1, sm1, argsD_mono h.mon _ _ _ _ _ _ (fun vs S2 q2 ws H2 m2 e2 n2 r2 us s2 I2 rv => ?_) (fun _ _ w => w) q1⟩
  refine run_fnD (E := WE (WOf nm ad X.K H0 m0 es Xc)) (us := .ref p :: us) (vs := .ref p :: ws) F (hr.mono (Nat.le_trans l1 hl)) hb hv (passAt tk σ) I2 (.cons rfl rv) ⟨_, S2, m2, n2, .cons (.loc (e2.pre _ _ hp)) (r2.append (hrep _ _)), ?_⟩
  exact hw.n.mono.ctr f _ _ _ _ _ _ (fun _ _ p => p.ext (e1.trans e2)) (fun k S' w H' m' e' n' => wof_call s w ((e1.trans e2).trans e') n') q2
theorem s_methd {P : Nat} (hw : Wo X.prog X.w X.K X.mg X.base nm ad Γ P) {mth f : Nat} {a : Str} {o : Expr} {do_ : Den} {apos pos : Pos} {ds : List Den} {xs : List Expr} (tk : Takes X (WOf nm ad X.K H0 m0 es Xc)) (hr : Room P X.A) (hf : nm.flds[mth]? = some a) (hl : nm.lv f ≤ P) (h0 : nm.lv f ≠ 0) (hd : nm.dok f 0 = true) (hb : baseOk o = true) (hline : (apos.endLine == pos.line) = true) (hx : xs.length < 29)
    (ho : PE X o (tE nm ad X.K H0 m0 es Xc do_)) (mo : MonD do_) (h : SndL X nm ad H0 m0 es Xc ds xs) : PE X (.Call (.Attribute o a apos) xs [] pos) (tE nm ad X.K H0 m0 es Xc fun ρ S Q Y =>
      do_ ρ S (fun x S1 => ∃ n C fs, x = .loc n ∧ S1[n]? = some (.ins C fs) ∧ fs.lookup mth = none ∧ Γ.mthd C mth f = true ∧ argsD ds ρ S1 (fun vs S2 => Γ.ctr f (x :: (vs ++ Γ.dfl f 0)) S2 Q Y) Y) Y) := by
  refine ⟨fun pins s0 σ H Q I ⟨ρ, S, m, s, q⟩ => ?_⟩
  obtain ⟨pl, ht⟩ := mcall_of (a := a) (env := X.env) hb hline hx h.star
  refine PySem.W.methodCall_KW (pl := pl) (thn (ho.run pins s0 σ H (fun x H' => ∃ S1 m1 dx, SimA nm ad X.K H0 m0 es σ H' ρ S1 m1 ∧ Ext H m H' m1 ∧ Rep X.K H' m1 x dx ∧ ∃ n C fs, dx = .loc n ∧ S1[n]? = some (.ins C fs) ∧ fs.lookup mth = none ∧ Γ.mthd C mth f = true ∧
      argsD ds ρ S1 (fun vs S2 => Γ.ctr f (dx :: (vs ++ Γ.dfl f 0)) S2 (Post nm ad X.K H m Q) fun k S' => Xc k ρ S') fun k S' => Xc k ρ S') I
    (tE_of mo s q fun w S1 z H1 m1 e1 s1 r1 q1 => ⟨S1, m1, w, s1, e1, r1, q1⟩)) fun u s1 ⟨z, H1, I1, r1, S1, m1, dz, sm1, e1, rz, n, C, fs, en, eC, ef, em, q1⟩ => ?_) ht
  subst en
  obtain ⟨p, rfl, hp⟩ := rz.loc_inv
  cases r1
  obtain ⟨dx, fvs, hH, hfs⟩ : RepO nm ad X.K H1 m1 p (.ins C fs) := sm1.sim.obj n _ p eC hp
  obtain ⟨M, hC⟩ := hw.n.mthd C mth f a em hf
  have lk := hfs.look hw.n.fnd hf
  rw [ef] at lk
  obtain ⟨⟨fd, ps, F, B⟩, kp⟩ := hw.fn f h0 hl
  obtain ⟨dvs, dus, hb, hv, hrep⟩ := B 0 hd
  refine getmeth_ok I1 hH hC M lk ?_
  refine callWith_any (first := [.ref p]) M.kp h I1 ⟨ρ, S1, m1, sm1, argsD_mono h.mon _ _ _ _ _ _ (fun vs S2 q2 ws H2 m2 e2 n2 r2 us s2 I2 rv => ?_) (fun _ _ w => w) q1⟩
  refine run_fnD (E := WE (WOf nm ad X.K H0 m0 es Xc)) (us := .ref p :: us) (vs := .ref p :: ws) F (hr.mono hl) hb hv (passAt tk σ) I2 (.cons rfl rv) ⟨_, S2, m2, n2, .cons (.loc (e2.pre _ _ hp)) (r2.append (hrep _ _)), ?_⟩
  exact hw.n.mono.ctr f _ _ _ _ _ _ (fun _ _ p => p.ext (e1.trans e2)) (fun k S' w H' m' e' n' => wof_call s w ((e1.trans e2).trans e') n') q2
theorem s_fld (hw : Wn X.K X.mg nm ad Γ) {f : Nat} {a : Str} {o : Expr} {do_ : Den} {pos : Pos} (hf : nm.flds[f]? = some a) (hb : baseOk o = true) (ho : PE X o (tE nm ad X.K H0 m0 es Xc do_)) (mo : MonD do_) :
    PE X (.Attribute o a pos) (tE nm ad X.K H0 m0 es Xc fun ρ S Q Y => do_ ρ S (fun x S1 => ∃ n C fs v, x = .loc n ∧ S1[n]? = some (.ins C fs) ∧ fs.lookup f = some v ∧ Q v S1) Y) :=
  (pe_fld ho (base_of hb)).wimp fun σ H Q ⟨ρ, S, m, s, h⟩ => tE_of mo s h fun w S1 z H1 m1 e1 s1 r1 ⟨n, C, fs, v, en, eC, ef, q⟩ => by
    subst en
    obtain ⟨p, rfl, hp⟩ := r1.loc_inv
    obtain ⟨dx, fvs, hH, hfs⟩ : RepO nm ad X.K H1 m1 p (.ins C fs) := s1.sim.obj n _ p eC hp
    have lk := hfs.look hw.fnd hf
    rw [ef] at lk
    obtain ⟨vv, l1, l2, l3⟩ := lk
    obtain ⟨na, hC⟩ := hw.attr C f a l3 hf
    exact ⟨p, _, dx, fvs, vv, rfl, hH, hC, na, l1, q _ _ _ e1 s1.sim l2⟩
theorem s_blt (hu : X.A.units + 130 < cLine) (hw : Wn X.K X.mg nm ad Γ) (hcalm : X.calm = true) {b : Blt} {p pos : Pos} {ds : List Den} {xs : List Expr} (hb : nm.blt b = true) (hg : Gl X (bltName b)) (hn : xs ≠ []) (h : SndL X nm ad H0 m0 es Xc ds xs) :
    PE X (.Call (.Name (bltName b) p) xs [] pos) (tE nm ad X.K H0 m0 es Xc fun ρ S Q Y => argsD ds ρ S (fun vs S1 => bltD b vs S1 Q) Y) := by
  have wk : ∀ σ H Q, tE nm ad X.K H0 m0 es Xc (fun ρ S Q Y => argsD ds ρ S (fun vs S1 => bltD b vs S1 Q) Y) σ H Q → tCB (rBlt X.K b) (tL nm ad X.K H0 m0 es Xc (argsD ds)) σ H Q := fun σ H Q ⟨ρ, S, m, s, q⟩ =>
    ⟨ρ, S, m, s, argsD_mono h.mon _ _ _ _ _ _ (fun vs S1 q1 ws H1 m1 e1 n1 r1 => blt_r (bltD_mono (fun _ _ p => p.ext e1) q1) n1 r1) (fun _ _ w => w) q⟩
  cases h with
  | nil => exact absurd rfl hn
  | cons h1 h2 h3 h4 =>
    have hm := hw.gblt b hb
    have hc := callR_blt (X := X) hu hcalm b
    have pa := pa_of (.cons h1 h2 h3 h4)
    cases b
    · exact (pe_callB hc hg hm (by decide +kernel) pa (by decide) (by decide) (star_of h2) (noAny_of h4.star)).wimp wk
    · exact (pe_callB hc hg hm (by decide +kernel) pa (by decide) (by decide) (star_of h2) (noAny_of h4.star)).wimp wk
    · exact (pe_callB hc hg hm (by decide +kernel) pa (by decide) (by decide) (star_of h2) (noAny_of h4.star)).wimp wk
    · exact (pe_callB hc hg hm (by decide +kernel) pa (by decide) (by decide) (star_of h2) (noAny_of h4.star)).wimp wk
    · exact (pe_callB hc hg hm (by decide +kernel) pa (by decide) (by decide) (star_of h2) (noAny_of h4.star)).wimp wk
    · exact (pe_callTy hc hg hm (by decide +kernel) pa (by decide) (by decide) (star_of h2) (noAny_of h4.star)).wimp wk
    · exact (pe_callTy hc hg hm (by decide +kernel) pa (by decide) (by decide) (star_of h2) (noAny_of h4.star)).wimp wk
    · exact (pe_callTy hc hg hm (by decide +kernel) pa (by decide) (by decide) (star_of h2) (noAny_of h4.star)).wimp wk
    · exact (pe_callB hc hg hm (by decide +kernel) pa (by decide) (by decide) (star_of h2) (noAny_of h4.star)).wimp wk
    · exact (pe_callB hc hg hm (by decide +kernel) pa (by decide) (by decide) (star_of h2) (noAny_of h4.star)).wimp wk
    · exact (pe_callTy hc hg hm (by decide +kernel) pa (by decide) (by decide) (star_of h2) (noAny_of h4.star)).wimp wk
    · exact (pe_callTy hc hg hm (by decide +kernel) pa (by decide) (by decide) (star_of h2) (noAny_of h4.star)).wimp wk
end
end Wp

/-! the calculus against the hand layer: isinstance, methods of built-in types, what is walked, comprehensions -/
namespace Wp
open PySem PySem.Spec PyProof.Rows L2

section
variable {X : Cx} {c : Ck} {nm : Nm} {ad : Ad} {Γ : Tab} {H0 : Hp} {m0 : List Addr} {es : Es} {Xc : Nat → Env → Sto → Prop}

/-! ### isinstance -/
def clV (ad : Ad) : Cl → V
  | .int => .ty "int" | .bool => .ty "bool" | .str => .ty "str" | .tuple => .ty "tuple" | .list => .ty "list" | .dict => .ty "dict" | .own C => .ref (ad.cls C)
theorem clsV_of (cl : Cl) : ClsV (clV ad cl) (clVal ad cl) := by cases cl <;> constructor
theorem pe_cl (hw : Wn X.K X.mg nm ad Γ) (hc : CtxOk X c) {cl : Cl} {e : Expr} (h : chkCl nm c cl e = true) : PE X e (tC (clV ad cl)) := by
  unfold chkCl at h
  split at h
  · rename_i x p
    simp only [Bool.and_eq_true, decide_eq_true_eq] at h
    obtain ⟨⟨h1, h2⟩, h3⟩ := h
    have hg := hc.gl h2
    obtain ⟨n1, n2, n3⟩ := okName_of h3
    obtain ⟨g1, g2, g3, g4, g5, g6⟩ := hw.gty
    cases cl with
    | int => cases h1; exact pe_bltn hg g1 (u := .type "int") (by decide +kernel) rfl n3 n1
    | bool => cases h1; exact pe_bltn hg g2 (u := .type "bool") (by decide +kernel) rfl n3 n1
    | str => cases h1; exact pe_bltn hg g3 (u := .type "str") (by decide +kernel) rfl n3 n1
    | tuple => cases h1; exact pe_bltn hg g4 (u := .type "tuple") (by decide +kernel) rfl n3 n1
    | list => cases h1; exact pe_bltn hg g5 (u := .type "list") (by decide +kernel) rfl n3 n1
    | dict => cases h1; exact pe_bltn hg g6 (u := .type "dict") (by decide +kernel) rfl n3 n1
    | own C => exact pe_glob hg (hw.gcls C x h1) rfl n1
  · cases h
theorem pa_cls (hw : Wn X.K X.mg nm ad Γ) (hc : CtxOk X c) : ∀ {cs : List Cl} {es : List Expr}, chkCls nm c cs es = true → PA X es (fun _ H Q => Q (cs.map (clV ad)) H) ∧ cs.length = es.length
  | [], [], _ => ⟨pa_nil.wimp fun _ _ _ h => h, rfl⟩
  | cl :: r, e :: es, h => by
    simp only [chkCls, Bool.and_eq_true] at h
    have hs : notStar e = true := by
      have h1 := h.1
      unfold chkCl at h1
      split at h1
      · rfl
      · cases h1
    exact ⟨(pa_cons (pe_cl hw hc h.1) (pa_cls hw hc h.2).1 (star_of hs)).wimp fun _ _ _ h => h, congrArg (· + 1) (pa_cls hw hc h.2).2⟩
  | [], _ :: _, h => by cases h
  | _ :: _, [], h => by cases h
theorem paired_cls : ∀ cs : List Cl, Paired ClsV (cs.map (clV ad)) (cs.map (clVal ad))
  | [] => .nil
  | c :: r => .cons (clsV_of c) (paired_cls r)
theorem tyX_of {K : PySem.W.Frag} {H : Hp} {m : List Addr} {S : Sto} {d : D} {v : V} {t : TyC} (r : Rep K H m v d) (s : Sim nm ad K H m S) (h : tyC S d = some t)
    (hi : ∀ C, t = .own C → PySem.W.findIn K (.ref (ad.cls C)) "__class__" = some (some (.builtin "object.__class__")) ∧ PySem.W.specialIn K (.builtin "object.__class__") "__get__" = some (some (.builtin "getset_descriptor.__get__")) ∧
      PySem.W.takesIn K (.builtin "object.__class__") = some true ∧ PySem.W.mroIn K (ad.cls C) (.type "object") = some true ∧ Cls K (ad.cls C)) : TyX K H v (tyVal ad t) := by
  cases r with
  | non => cases h; exact .base .non
  | bl b => cases h; exact .base (.bl b)
  | int i => cases h; exact .base (.int i)
  | str x => cases h; exact .base (.str x)
  | tup h1 h2 =>
    cases h
    rcases h1 with (h1 | ⟨o, h1⟩) | ⟨o, its, n, e1, e2, _⟩
    · exact .base (.tup h1)
    · exact .fTuple h1
    · exact .kTuple e1 e2
  | rol h1 h2 =>
    cases h
    rcases h1 with ⟨o, h1⟩ | ⟨o, its, n, e1, e2, _⟩
    · exact .base (.frz h1)
    · exact .kList e1 e2
  | loc hm =>
    rename_i a n
    obtain ⟨o, ho, r⟩ := s.at_ hm
    simp only [tyC, ho] at h
    cases o with
    | lst xs =>
      cases h
      obtain ⟨vs, h1, _⟩ := r
      exact .base (.lst h1)
    | ins C fs =>
      cases h
      obtain ⟨dx, fvs, h1, _⟩ := r
      obtain ⟨a1, a2, a3, a4, a5⟩ := hi C rfl
      exact .base (.ins h1 a5 a1 a2 a3 a4)
    | dk kvs =>
      cases h
      obtain ⟨r, h1, _⟩ := r
      exact .base (.dK h1)
    | dt kvs =>
      cases h
      obtain ⟨r, h1, _⟩ := r
      exact .base (.dT h1)
    | fk kvs => cases h
    | ft kvs => cases h
  | key h1 => cases h; exact .base (.tup h1)
theorem kitAny_of (hw : Wn X.K X.mg nm ad Γ) {t : TyC} : ∀ {cs : List Cl} {b : Bool}, isaAny Γ.isa t cs = some b → PySem.W.kitAny X.K (tyVal ad t) (cs.map (clVal ad)) = some b
  | [], b, h => by cases h; exact kitAny_nil
  | c :: r, b, h => by
    unfold isaAny at h
    split at h
    · rename_i e
      cases h
      exact kitAny_cons (hw.isa t c true e) (fun z => by cases z) fun _ => rfl
    · rename_i e
      exact kitAny_cons (hw.isa t c false e) (fun _ => kitAny_of hw h) fun z => by cases z
    · cases h
theorem isa_own (hw : Wn X.K X.mg nm ad Γ) {t : TyC} {C : Nat} (ht : t = .own C) : ∀ {cs : List Cl} {b : Bool}, cs ≠ [] → isaAny Γ.isa t cs = some b → ∃ c b', Γ.isa (.own C) c = some b'
  | [], _, hn, _ => absurd rfl hn
  | c :: r, b, _, h => by
    subst ht
    unfold isaAny at h
    split at h
    · rename_i e; exact ⟨c, _, e⟩
    · rename_i e; exact ⟨c, _, e⟩
    · cases h
theorem s_isa (hw : Wn X.K X.mg nm ad Γ) (hc : CtxOk X c) {cs : List Cl} {a z : Expr} {p pos : Pos} {da : Den} (hg : Gl X "isinstance") (ha : PE X a (tE nm ad X.K H0 m0 es Xc da)) (ma : MonD da) (hs : notStar a = true)
    (hz : (match z, cs with
      | .Tuple zs _ _, _ => chkCls nm c cs zs && decide (zs.length ≤ 1000)
      | z, [cl] => chkCl nm c cl z
      | _, _ => false) = true) (hne : cs ≠ []) :
    PE X (.Call (.Name "isinstance" p) [a, z] [] pos) (tE nm ad X.K H0 m0 es Xc fun ρ S Q Y => da ρ S (fun x S1 => ∃ t b, tyC S1 x = some t ∧ isaAny Γ.isa t cs = some b ∧ Q (.bl b) S1) Y) := by
  have own : ∀ {t : TyC} {b : Bool}, isaAny Γ.isa t cs = some b → ∀ C, t = .own C → _ := fun {t b} hb C ht => let ⟨c, b', e⟩ := isa_own hw ht hne hb; hw.isaO C c b' e
  split at hz
  · rename_i zs k p2
    rw [Bool.and_eq_true, decide_eq_true_eq] at hz
    obtain ⟨pa, hl⟩ := pa_cls hw hc hz.1
    refine (pe_callB (call_isiT (X := X)) hg hw.gisa (by decide +kernel) (pa_cons ha (pa_cons (pe_tup pa) pa_nil (star_of rfl)) (star_of hs)) (by decide) (by decide) (star_of hs) (noAny_of rfl)).wimp fun σ H Q ⟨ρ, S, m, s, h⟩ =>
      tE_of ma s h fun w S1 x H1 m1 e1 s1 r1 ⟨t, b, ht, hb, q⟩ => ⟨?_, fun q' hq' => ?_⟩
    · rw [List.length_map, hl, sz16]; omega
    · refine ⟨x, q', _, tyVal ad t, cs.map (clVal ad), b, rfl, upd_same, paired_cls cs, tyX_of (r1.ext (ext_new hq')) (s1.sim.new hq') ht (own hb), kitAny_of hw hb, q _ _ _ (e1.trans (ext_new hq')) (s1.sim.new hq') (.bl b)⟩
  · rename_i cl _
    have hsz : notStar z = true := by
      have h1 := hz
      unfold chkCl at h1
      split at h1
      · rfl
      · cases h1
    refine (pe_callB (call_isi (X := X)) hg hw.gisa (by decide +kernel) (pa_cons ha (pa_cons (pe_cl hw hc hz) pa_nil (star_of hsz)) (star_of hs)) (by decide) (by decide) (star_of hs) (noAny_of (by rw [allStar, hsz]; rfl))).wimp fun σ H Q ⟨ρ, S, m, s, h⟩ =>
      tE_of ma s h fun w S1 x H1 m1 e1 s1 r1 ⟨t, b, ht, hb, q⟩ => ⟨x, _, tyVal ad t, _, b, rfl, clsV_of cl, tyX_of r1 s1.sim ht (own hb), ?_, (q.ext e1).bl s1.sim⟩
    unfold isaAny at hb
    split at hb
    · rename_i e; cases hb; exact hw.isa _ _ _ e
    · rename_i e; cases hb; exact hw.isa _ _ _ e
    · cases hb
  · cases hz

/-! ### isinstance of a caught exception -/
def xcV (ad : Ad) : XC → V
  | .own k => .ref (ad.ex k)
  | .vErr => .ty "ValueError"
theorem xcV_of (cl : XC) : ClsV (xcV ad cl) (xcVal ad cl) := by cases cl <;> constructor
theorem pe_xc (hw : Wn X.K X.mg nm ad Γ) (hc : CtxOk X c) {cl : XC} {e : Expr} (h : chkXc nm c cl e = true) : PE X e (tC (xcV ad cl)) := by
  unfold chkXc at h
  split at h
  · rename_i k x p
    simp only [Bool.and_eq_true, decide_eq_true_eq] at h
    obtain ⟨⟨h1, h2⟩, h3⟩ := h
    exact pe_glob (hc.gl h2) (hw.gex k x h1) rfl (okName_of h3).1
  · rename_i x p
    simp only [Bool.and_eq_true, decide_eq_true_eq] at h
    obtain ⟨⟨⟨h1, hv⟩, h2⟩, h3⟩ := h
    obtain ⟨n1, n2, n3⟩ := okName_of h3
    cases h1
    exact pe_bltn (hc.gl h2) (hw.gve hv) (u := .type "ValueError") (by decide +kernel) rfl n3 n1
  · cases h
theorem xc_star {cl : XC} {e : Expr} (h : chkXc nm c cl e = true) : notStar e = true := by
  unfold chkXc at h
  split at h
  · rfl
  · rfl
  · cases h
theorem pa_xcs (hw : Wn X.K X.mg nm ad Γ) (hc : CtxOk X c) : ∀ {cs : List XC} {es : List Expr}, chkXcs nm c cs es = true → PA X es (fun _ H Q => Q (cs.map (xcV ad)) H) ∧ cs.length = es.length
  | [], [], _ => ⟨pa_nil.wimp fun _ _ _ h => h, rfl⟩
  | cl :: r, e :: es, h => by
    simp only [chkXcs, Bool.and_eq_true] at h
    exact ⟨(pa_cons (pe_xc hw hc h.1) (pa_xcs hw hc h.2).1 (star_of (xc_star h.1))).wimp fun _ _ _ h => h, congrArg (· + 1) (pa_xcs hw hc h.2).2⟩
  | [], _ :: _, h => by cases h
  | _ :: _, [], h => by cases h
theorem paired_xcs : ∀ cs : List XC, Paired ClsV (cs.map (xcV ad)) (cs.map (xcVal ad))
  | [] => .nil
  | c :: r => .cons (xcV_of c) (paired_xcs r)
theorem kitAny_x (hw : Wn X.K X.mg nm ad Γ) {k : Nat} : ∀ {cs : List XC} {b : Bool}, exAny (Γ.exs k) cs = some b → PySem.W.kitAny X.K (.ref (ad.ex k)) (cs.map (xcVal ad)) = some b
  | [], b, h => by cases h; exact kitAny_nil
  | c :: r, b, h => by
    unfold exAny at h
    split at h
    · rename_i e
      cases h
      exact kitAny_cons (hw.exs k c true e) (fun z => by cases z) fun _ => rfl
    · rename_i e
      exact kitAny_cons (hw.exs k c false e) (fun _ => kitAny_x hw h) fun z => by cases z
    · cases h
/-- isinstance(e, C) and isinstance(e, (C, ..)), e the exception that the suite holds at a -/
def rIsX (K : PySem.W.Frag) (D a : Addr) : List V → Hp → VK → Prop := fun xs H Q => ∃ c, xs = [.ref a, c] ∧
  ((∃ u b, ClsV c u ∧ PySem.W.kitOne K (.ref D) u = some b ∧ Q (.bl b) H) ∨ ∃ tp cs us b, c = .ref tp ∧ H tp = some (.tup cs) ∧ Paired ClsV cs us ∧ PySem.W.kitAny K (.ref D) us = some b ∧ Q (.bl b) H)
theorem call_isXp {X : Cx} {a D : Addr} {oe : Obj} (hp : (a, oe) ∈ X.pn) (C : ExcC X.K D) (hz : Zc (.ref D) none oe) (hf : ∃ vs, oe.data = .fields vs) : CallR X (.builtin "isinstance") (rIsX X.K D a) := by
  intro pins s σ H xs us Q I r h
  obtain ⟨c, rfl, h⟩ := h
  obtain ⟨u1, u2, rfl, r1, r2⟩ := vals2 r
  cases (show u1 = Value.ref a from r1)
  obtain ⟨hget, _⟩ := I.pin (a, oe) (List.mem_append.mpr (.inl hp))
  obtain ⟨vs, hv⟩ := hf
  have J : PySem.W.InstAt s.heap a oe D none := by
    obtain ⟨oc, od, oda, osl⟩ := oe
    obtain ⟨h1, h2⟩ := hz
    dsimp only at h1 h2 hv
    subst h1 h2 hv
    exact ⟨hget, rfl, rfl, trivial⟩
  have Z := PySem.W.handS_kitx_exc (x := a) C.hg C.hk C.hs C.hd C.ha C.hn C.ht C.hm (ox := oe)
  rcases h with ⟨u, b, k, e, q⟩ | ⟨tp, cs, ws, b, rfl, hT, k, e, q⟩
  · have e2 := k.eq r2
    subst e2
    exact PySem.W.kia_one Z I.kIn J e (fun z => nomatch z) fun tk => ⟨.bl b, H, I.kept (t' := tk) fun _ _ z => z, rfl, q⟩
  · cases (show u2 = Value.ref tp from r2)
    obtain ⟨_, its, rv, o, h1, h2, n, h3⟩ := (show ObjOk X.prog X.w H s.heap tp (.tup cs) from I.hok tp _ hT)
    have e3 := ClsV.all k rv
    subst e3
    obtain ⟨oc, od, dt, sl⟩ := o
    simp only at h2 h3
    subst h2 h3
    exact PySem.W.kia_tup Z I.kIn J h1 e (fun z => nomatch z) fun tk => ⟨.bl b, H, I.kept (t' := tk) fun _ _ z => z, rfl, q⟩
theorem call_isX {X : Cx} {a D : Addr} {oe : Obj} {pn : List (Addr × Obj)} (C : ExcC X.K D) (hz : Zc (.ref D) none oe) (hf : ∃ vs, oe.data = .fields vs) : CallR (X.suite a ((a, oe) :: pn)) (.builtin "isinstance") (rIsX X.K D a) :=
  call_isXp (X := X.suite a ((a, oe) :: pn)) List.mem_cons_self C hz hf
/-- a def called with the exception at a -/
def rFx (nm : Nm) (ad : Ad) (Γ : Tab) (K : PySem.W.Frag) (f : Nat) (a : Addr) (j : Nat) : List V → Hp → VK → Prop := fun xs H Q => xs = [.ref a] ∧ ∃ S m, Sim nm ad K H m S ∧ Γ.ctr f [.exc j] S (Post nm ad K H m Q) fun _ _ => False
theorem call_fx {X : Cx} {k f j : Nat} {a : Addr} {oe : Obj} {pn : List (Addr × Obj)} (F : FnX X.prog X.w X.K X.mg X.base nm ad Γ f) (hr : Room k X.A) (hk : nm.lv f ≤ k) (C : ExcC X.K (ad.ex j)) (hz : Zc (.ref (ad.ex j)) none oe) (hf : ∃ vs, oe.data = .fields vs) : CallR (X.suite a ((a, oe) :: pn)) (.ref (ad.fn f)) (rFx nm ad Γ X.K f a j) := by
  intro pins s σ H xs us Q I rv ⟨exs, hq⟩
  subst exs
  obtain ⟨fd, ps, bd, hl, run⟩ := F.ex
  have eu : us = [.ref a] := by
    cases rv with
    | cons r1 r2 =>
      cases r2
      cases r1
      rfl
  subst eu
  have b1 := bd s [.ref a] I.kIn (by rw [List.append_nil, hl]; rfl)
  rw [List.append_nil] at b1
  have pin := I.pin (a, oe) (List.mem_append.mpr (.inl List.mem_cons_self))
  have room : L2H.RoomH (nm.lv f) (X.suite a ((a, oe) :: pn)).A := L2H.RoomH.mono ⟨hr.dp, hr.un⟩ hk
  have po : L2H.PinOk (X.suite a ((a, oe) :: pn)).stack H s (a, oe) := ⟨pin.1, pin.2.1, fun z => (List.mem_cons.mp (I.stkSub a z)).elim pin.2.2.1 pin.2.2.2.1, pin.2.2.2.2⟩
  refine wpAny_call (codeAny_mono (run _ _ s H ⟨[.ref a], []⟩ Q (a, oe) j room po C hz hf I.env0 b1 hq) fun res s' out => ?_)
  match res, out with
  | .ok (.ret u), out => exact I.after out
  | .ok .next, out => exact out.elim
  | .ok .brk, out => exact out.elim
  | .ok .cont, out => exact out.elim
  | .error e, out =>
    obtain ⟨_, _, _, _, _, _, _, _, _, _, _, _, z⟩ := out
    exact z.elim
theorem pe_callF {X : Cx} {f : Addr} {r : List V → Hp → VK → Prop} (C : CallR X (.ref f) r) {x : Str} (hg : Gl X x) (hm : X.mg x = some (.ref f)) (hk : PySem.W.keepIn X.K (.ref f) = true) {e : Expr} {t : TA} {q pos : Pos} (ha : PA X [e] t) (hd : (x == ("__debug__" : Str)) = false)
    (he : starEach [e] X.env = (false, eval e X.env) :: starEach [] X.env) : PE X (.Call (.Name x q) [e] [] pos) (tCB r t) :=
  ⟨fun pins s σ H Q I h => wpAny_Call_Name_kw (ld_glob I hg hm (PySem.W.callWith_K (h₀ := X.base) I.ok.mod.kin hk (thn (ha.run pos pins s σ H _ I h) fun us s1 ⟨vs, H1, I1, r1, q1⟩ => ⟨I1.kIn, C pins s1 σ H1 vs us Q I1 r1 q1⟩) he rfl) hd)⟩
theorem s_callX (hw : Wn X.K X.mg nm ad Γ) (hc : CtxOk X c) {f i : Nat} {x y : Str} {p p1 pos : Pos} (hf : nm.fn[f]? = some (some x)) (hg : Gl X x) (hx : okName x = true) (hN : c.N[i]? = some y) (hv : visB c.sc y = true) (hn : okName y = true)
    (h : ∃ a k, (i, a, k) ∈ es.2 ∧ CallR X (.ref (ad.fn f)) (rFx nm ad Γ X.K f a k) ∧ PySem.W.keepIn X.K (.ref (ad.fn f)) = true) :
    PE X (.Call (.Name x p) [.Name y p1] [] pos) (tE nm ad X.K H0 m0 es Xc (den Γ (.callX f i))) := by
  obtain ⟨a, k, hm, call, kp⟩ := h
  have ev := pe_var (X := X) (pos := p1) (by rw [hc.N]; exact hN) (hc.vis hv) (okName_of hn).1 (okName_of hn).2.1
  refine (pe_callF call hg (hw.gfn f x hf) kp (pa_cons ev pa_nil (star_of rfl)) (okName_of hx).1 (star_of rfl)).wimp fun σ H Q ⟨ρ, S, m, s, k', e, q⟩ => ?_
  obtain ⟨_, g1, g2⟩ := s.hold _ hm
  rw [g2] at e
  cases e
  exact ⟨_, g1, rfl, S, m, s.sim, q⟩
theorem s_isaX (hw : Wn X.K X.mg nm ad Γ) (hc : CtxOk X c) {i : Nat} {cs : List XC} {y : Str} {z : Expr} {p p1 pos : Pos} (hg : Gl X "isinstance") (hN : c.N[i]? = some y) (hv : visB c.sc y = true) (hn : okName y = true)
    (hx : ∃ a k, (i, a, k) ∈ es.2 ∧ CallR X (.builtin "isinstance") (rIsX X.K (ad.ex k) a))
    (hz : (match z, cs with
      | .Tuple zs _ _, _ => chkXcs nm c cs zs && decide (zs.length ≤ 1000)
      | z, [cl] => chkXc nm c cl z
      | _, _ => false) = true) :
    PE X (.Call (.Name "isinstance" p) [.Name y p1, z] [] pos) (tE nm ad X.K H0 m0 es Xc (den Γ (.isaX i cs))) := by
  obtain ⟨a, k, hm, call⟩ := hx
  have ev := pe_var (X := X) (pos := p1) (by rw [hc.N]; exact hN) (hc.vis hv) (okName_of hn).1 (okName_of hn).2.1
  split at hz
  · rename_i zs k2 p2
    rw [Bool.and_eq_true, decide_eq_true_eq] at hz
    obtain ⟨pa, hl⟩ := pa_xcs hw hc hz.1
    refine (pe_callB call hg hw.gisa (by decide +kernel) (pa_cons ev (pa_cons (pe_tup pa) pa_nil (star_of rfl)) (star_of rfl)) (by decide) (by decide) (star_of rfl) (noAny_of rfl)).wimp fun σ H Q ⟨ρ, S, m, s, k', b, h1, h2, q⟩ => ?_
    obtain ⟨_, g1, g2⟩ := s.hold _ hm
    rw [g2] at h1
    cases h1
    refine ⟨_, g1, ?_, fun q' hq' => ?_⟩
    · rw [List.length_map, hl, sz16]; omega
    · exact ⟨_, rfl, .inr ⟨q', _, cs.map (xcVal ad), b, rfl, upd_same, paired_xcs cs, kitAny_x hw h2, q _ _ _ (ext_new hq') (s.sim.new hq') (.bl b)⟩⟩
  · rename_i cl _
    refine (pe_callB call hg hw.gisa (by decide +kernel) (pa_cons ev (pa_cons (pe_xc hw hc hz) pa_nil (star_of (xc_star hz))) (star_of rfl)) (by decide) (by decide) (star_of rfl) (noAny_of (by rw [allStar, xc_star hz]; rfl))).wimp fun σ H Q ⟨ρ, S, m, s, k', b, h1, h2, q⟩ => ?_
    obtain ⟨_, g1, g2⟩ := s.hold _ hm
    rw [g2] at h1
    cases h1
    refine ⟨_, g1, _, rfl, .inl ⟨_, b, xcV_of cl, ?_, q _ _ _ .refl s.sim (.bl b)⟩⟩
    unfold exAny at h2
    split at h2
    · rename_i e; cases h2; exact hw.exs _ _ _ e
    · rename_i e
      cases h2
      exact hw.exs _ _ _ e
    · cases h2
  · cases hz

/-! ### methods of built-in types -/
def rMt : Mt → V → List V → Hp → VK → Prop
  | .append => rAppend
  | .clear => rClear
  | .upper => fun x xs H Q => ∃ a, x = .str a ∧ xs = [] ∧ a.length ≤ 5592405 ∧ Q (.str (Txt.upper a)) H
  | .insert => fun x vs H Q => ∃ (l : Addr) (xs : List V) (i : Int) (y : V), x = .ref l ∧ vs = [.int i, y] ∧ H l = some (.lst xs) ∧ xs.length < sizeLine ∧ 0 ≤ i ∧ i < 2 ^ 63 ∧ Q .non (upd H l (.lst (xs.take i.toNat ++ [y] ++ xs.drop i.toNat)))
  | .popAt => rPopAt
  | .dpop1 => fun x xs H Q => ∃ (a : Addr) (kvs : List (L2.Key × V)) (k : L2.Key) (v : V), x = .ref a ∧ xs = [kV k] ∧ H a = some (.dK kvs) ∧ valV kvs k = some v ∧ Q v (upd H a (.dK (dropK kvs k)))
  | .dpop2 => DX.rPopT
  | .dclear => rDClear
  | .extend => rExtend
  | .dget1 => fun x xs H Q => ∃ (a : Addr) (y : V) (o : Option V), x = .ref a ∧ xs = [y] ∧ DGet H a y o ∧ Q (o.getD .non) H
  | .dget2 => fun x xs H Q => ∃ (a : Addr) (y z : V) (o : Option V), x = .ref a ∧ xs = [y, z] ∧ DGet H a y o ∧ Q (o.getD z) H
def mtT : Mt → String
  | .append => "list" | .clear => "list" | .upper => "str" | .insert => "list" | .popAt => "list" | .extend => "list" | .dpop1 => "dict" | .dpop2 => "dict" | .dclear => "dict" | .dget1 => "dict" | .dget2 => "dict"
theorem Post.setL {K : PySem.W.Frag} {H : Hp} {m : List Addr} {S : Sto} {Q : VK} {d : D} {x : V} {n : Nat} {a : Addr} {ds : List D} {vs : List V} (h : Post nm ad K H m Q d (setLst S n ds)) (s : Sim nm ad K H m S) (g1 : Mu (H a)) (hm : m[n]? = some a) (r : Reps K H m vs ds) (rx : Rep K H m x d) :
    Q x (upd H a (.lst vs)) :=
  have e := ext_mut (m := m) (o := .lst vs) g1
  h _ _ _ e (s.upd g1 hm ⟨vs, upd_same, r.ext e⟩) (rx.ext e)
theorem mt_pop1 {X : Cx} : MtR X "dict.pop" (rMt .dpop1) := by
  intro pins s σ H x xs v us Q I rx rxs ⟨a, kvs, k, w, ex, exs, ha, l, q⟩
  subst ex exs
  cases rx
  cases rxs with
  | cons r1 r2 =>
    cases r2
    exact d_pop I ha r1 l (.inl rfl) fun w' s' I' rw' => ⟨w, _, I', rw', q⟩
theorem mt_get1 {X : Cx} (hu : X.A.units + 1 < cLine) : MtR X "dict.get" (rMt .dget1) := by
  intro pins s σ H x xs v us Q I rx rxs ⟨a, y, o, ex, exs, g, q⟩
  subst ex exs
  cases rx
  cases rxs with
  | cons r1 r2 =>
    cases r2
    exact d_get1 hu I g r1 fun w' s' I' rw' => ⟨_, _, I', rw', q⟩
theorem mt_get2 {X : Cx} (hu : X.A.units + 1 < cLine) : MtR X "dict.get" (rMt .dget2) := by
  intro pins s σ H x xs v us Q I rx rxs ⟨a, y, z, o, ex, exs, g, q⟩
  subst ex exs
  cases rx
  cases rxs with
  | cons r1 r2 =>
    cases r2 with
    | cons r3 r4 =>
      cases r4
      exact d_get2 hu I g r1 r3 fun w' s' I' rw' => ⟨_, _, I', rw', q⟩
theorem seq_at {i : Int} {n : Nat} (h0 : 0 ≤ i) (h : i.toNat < n) : seqIndex? i n = some i.toNat := by
  unfold seqIndex?
  have e1 : ¬ i < 0 := by omega
  have e2 : (decide (0 ≤ i) && decide (i < (n : Int))) = true := by
    rw [Bool.and_eq_true, decide_eq_true_eq, decide_eq_true_eq]
    omega
  simp only [e1, if_false, e2, if_true]
theorem bm_r {K : PySem.W.Frag} {H : Hp} {m : List Addr} {S : Sto} {Q : VK} {b : Mt} {d : D} {x : V} {ds : List D} {vs : List V} (h : bmD b d ds S (Post nm ad K H m Q)) (s : Sim nm ad K H m S) (rx : Rep K H m x d) (r : Reps K H m vs ds) : rMt b x vs H Q := by
  unfold bmD at h
  split at h
  · obtain ⟨v, rfl, r1⟩ := r.one
    obtain ⟨xs, h0, h1, q⟩ := h
    obtain ⟨a, vs, rfl, hm, g1, g2⟩ := rx.lst_inv s h0
    exact ⟨a, vs, v, rfl, rfl, g1, by rw [g2.length, sz16]; exact h1, q.setL s (mu_of g1 trivial) hm (g2.append (.cons r1 .nil)) .non⟩
  · cases r
    obtain ⟨xs, h0, q⟩ := h
    obtain ⟨a, vs, rfl, hm, g1, g2⟩ := rx.lst_inv s h0
    exact ⟨a, vs, rfl, rfl, g1, q.setL s (mu_of g1 trivial) hm .nil .non⟩
  · cases r
    cases rx.str_inv
    exact ⟨_, rfl, rfl, h.1, Post.str h.2 s⟩
  · obtain ⟨v, w, rfl, r1, r2⟩ := r.two
    obtain ⟨xs, h0, ⟨h1, h2, h3⟩, q⟩ := h
    obtain ⟨a, vs, rfl, hm, g1, g2⟩ := rx.lst_inv s h0
    cases r1.int_inv
    exact ⟨a, vs, _, w, rfl, rfl, g1, by rw [g2.length, sz16]; exact h1, h2, h3, q.setL s (mu_of g1 trivial) hm (((g2.take _).append (.cons r2 .nil)).append (g2.drop _)) .non⟩
  · obtain ⟨v, rfl, r1⟩ := r.one
    obtain ⟨xs, w, h0, ⟨h1, h2, h3⟩, q⟩ := h
    obtain ⟨a, vs, rfl, hm, g1, g2⟩ := rx.lst_inv s h0
    cases r1.int_inv
    obtain ⟨y, hy, ry⟩ := g2.get h3
    refine ⟨a, vs, _, _, y, rfl, rfl, g1, by omega, by omega, ?_, hy, q.setL s (mu_of g1 trivial) hm (g2.eraseIdx _) ry⟩
    exact seq_at h1 (List.getElem?_eq_some_iff.mp hy).1
  · obtain ⟨v, rfl, r1⟩ := r.one
    obtain ⟨kvs, w, h0, h1, q⟩ := h
    obtain ⟨a, rfl, ha⟩ := rx.loc_inv
    cases r1.int_inv
    obtain ⟨rr, g1, g2⟩ := s.dk ha h0
    obtain ⟨y, hy, ry⟩ := g2.some h1
    exact ⟨a, rr, .inl _, y, rfl, rfl, g1, hy, q _ _ _ (ext_mut (mu_of g1 trivial)) (s.upd (mu_of g1 trivial) ha ⟨_, upd_same, (g2.drop _).ext (ext_mut (mu_of g1 trivial))⟩) (ry.ext (ext_mut (mu_of g1 trivial)))⟩
  · obtain ⟨v, w, rfl, r1, r2⟩ := r.two
    obtain ⟨kvs, h0, q1, q2⟩ := h
    obtain ⟨a, rfl, ha⟩ := rx.loc_inv
    obtain ⟨b, rfl, hb⟩ := r1.key_inv
    obtain ⟨rr, g1, g2⟩ := s.dt ha h0
    refine ⟨a, rr, _, b, w, rfl, rfl, g1, hb, fun y hy => ?_, fun hn => q2 (g2.nback hn) _ _ _ .refl s r2⟩
    obtain ⟨d', e, ry⟩ := g2.back hy
    exact q1 d' e _ _ _ (ext_mut (mu_of g1 trivial)) (s.upd (mu_of g1 trivial) ha ⟨_, upd_same, (g2.drop _).ext (ext_mut (mu_of g1 trivial))⟩) (ry.ext (ext_mut (mu_of g1 trivial)))
  · obtain ⟨v, rfl, r1⟩ := r.one
    obtain ⟨a, o, h1, h2, r, h3, h4⟩ := dg_r h s rx r1
    refine ⟨a, v, o, h1, rfl, h2, ?_⟩
    cases r with
    | none => rw [show o = none from h4]; exact h3 _ _ _ .refl s .non
    | some d' => obtain ⟨w, e, rw'⟩ := h4; rw [e]; exact h3 _ _ _ .refl s rw'
  · obtain ⟨v, z, rfl, r1, r2⟩ := r.two
    obtain ⟨a, o, h1, h2, r, h3, h4⟩ := dg_r h s rx r1
    refine ⟨a, v, z, o, h1, rfl, h2, ?_⟩
    cases r with
    | none => rw [show o = none from h4]; exact h3 _ _ _ .refl s r2
    | some d' => obtain ⟨w, e, rw'⟩ := h4; rw [e]; exact h3 _ _ _ .refl s rw'
  · cases r
    obtain ⟨kvs, h0, q⟩ := h
    obtain ⟨a, rfl, ha⟩ := rx.loc_inv
    obtain ⟨rr, g1, g2⟩ := s.dk ha h0
    exact ⟨a, rr, rfl, rfl, g1, q _ _ _ (ext_mut (mu_of g1 trivial)) (s.upd (mu_of g1 trivial) ha ⟨_, upd_same, .nil⟩) .non⟩
  · obtain ⟨v, rfl, r1⟩ := r.one
    obtain ⟨xs, ys, h0, ⟨h1, h2⟩, q⟩ := h
    obtain ⟨a, vs, rfl, hm, g1, g2⟩ := rx.lst_inv s h0
    obtain ⟨b, ws, rfl, hm2, g3, g4⟩ := r1.lst_inv s h1
    exact ⟨a, b, vs, ws, rfl, rfl, g1, g3, by rw [g2.length, g4.length, sz16]; exact h2, q.setL s (mu_of g1 trivial) hm (g2.append g4) .non⟩
  · exact h.elim
theorem bm_ty {K : PySem.W.Frag} {H : Hp} {m : List Addr} {S : Sto} {b : Mt} {d : D} {x : V} (h : mtTy b d S) (s : Sim nm ad K H m S) (rx : Rep K H m x d) : tyV K (mtT b) x H := by
  unfold mtTy at h
  split at h
  · obtain ⟨xs, h⟩ := h
    obtain ⟨a, vs, rfl, hm, g1, g2⟩ := rx.lst_inv s h
    exact .inl ⟨rfl, _, SqL.of g1⟩
  · obtain ⟨xs, h⟩ := h
    obtain ⟨a, vs, rfl, hm, g1, g2⟩ := rx.lst_inv s h
    exact .inl ⟨rfl, _, SqL.of g1⟩
  · obtain ⟨xs, h⟩ := h
    obtain ⟨a, vs, rfl, hm, g1, g2⟩ := rx.lst_inv s h
    exact .inl ⟨rfl, _, SqL.of g1⟩
  · obtain ⟨xs, h⟩ := h
    obtain ⟨a, vs, rfl, hm, g1, g2⟩ := rx.lst_inv s h
    exact .inl ⟨rfl, _, SqL.of g1⟩
  · obtain ⟨xs, h⟩ := h
    obtain ⟨a, vs, rfl, hm, g1, g2⟩ := rx.lst_inv s h
    exact .inl ⟨rfl, _, SqL.of g1⟩
  · obtain ⟨kvs, h⟩ := h
    obtain ⟨a, rfl, ha⟩ := rx.loc_inv
    obtain ⟨rr, g1, g2⟩ := s.dk ha h
    exact .inr (.inr (.inl ⟨rfl, .inl ⟨_, g1⟩⟩))
  · obtain ⟨kvs, h⟩ := h
    obtain ⟨a, rfl, ha⟩ := rx.loc_inv
    obtain ⟨rr, g1, g2⟩ := s.dt ha h
    exact .inr (.inr (.inl ⟨rfl, .inr ⟨_, g1⟩⟩))
  · obtain ⟨kvs, h⟩ := h
    obtain ⟨a, rfl, ha⟩ := rx.loc_inv
    obtain ⟨rr, g1, g2⟩ := s.dk ha h
    exact .inr (.inr (.inl ⟨rfl, .inl ⟨_, g1⟩⟩))
  · obtain ⟨a, rfl, ha⟩ := rx.loc_inv
    rcases h with ⟨kvs, h⟩ | ⟨kvs, h⟩
    · obtain ⟨rr, g1, g2⟩ := s.dk ha h
      exact .inr (.inr (.inl ⟨rfl, .inl ⟨_, g1⟩⟩))
    · obtain ⟨rr, g1, g2⟩ := s.dt ha h
      exact .inr (.inr (.inl ⟨rfl, .inr ⟨_, g1⟩⟩))
  · obtain ⟨a, rfl, ha⟩ := rx.loc_inv
    rcases h with ⟨kvs, h⟩ | ⟨kvs, h⟩
    · obtain ⟨rr, g1, g2⟩ := s.dk ha h
      exact .inr (.inr (.inl ⟨rfl, .inl ⟨_, g1⟩⟩))
    · obtain ⟨rr, g1, g2⟩ := s.dt ha h
      exact .inr (.inr (.inl ⟨rfl, .inr ⟨_, g1⟩⟩))
  · cases rx
    show tyV K "str" _ H
    simp [tyV]
  · exact h.elim
theorem few_of {pos : Pos} {e : Expr} {xs : List Expr} {env : PySem.Env} (hx : (e :: xs).length < 29) (hs : allStar (e :: xs) = true) : ((backTo pos (starEach (e :: xs) env)).all (fun x => !x.1) && (backToKw pos (keywordEach [] env)).all (fun x => x.1.isSome)
      && decide ((e :: xs).length + ([] : List Keyword).length + (if ([] : List Keyword).isEmpty then 0 else 1) < 30)) = true := by
  rw [stars_of hs]
  have e1 : (backTo pos ((e :: xs).map fun e => (false, eval e env))).all (fun x => !x.1) = true := by
    unfold backTo
    simp [List.all_map]
  rw [e1]
  simp [backToKw, keywordEach] at hx ⊢
  omega
theorem s_bm (hu : X.A.units + 130 < cLine) {mt : Mt} {o : Expr} {do_ : Den} {apos pos : Pos} {ds : List Den} {xs : List Expr} (hb : baseOk o = true) (hline : (apos.endLine == pos.line) = true) (hx : xs.length < 29)
    (ho : PE X o (tE nm ad X.K H0 m0 es Xc do_)) (mo : MonD do_) (h : SndL X nm ad H0 m0 es Xc ds xs) :
    PE X (.Call (.Attribute o (mtName mt) apos) xs [] pos) (tE nm ad X.K H0 m0 es Xc fun ρ S Q Y => do_ ρ S (fun x S1 => mtTy mt x S1 ∧ argsD ds ρ S1 (fun vs S2 => bmD mt x vs S2 Q) Y) Y) := by
  have wk0 : ∀ {b : Mt}, b = mt → ds = [] → ∀ σ H Q, tE nm ad X.K H0 m0 es Xc (fun ρ S Q Y => do_ ρ S (fun x S1 => mtTy mt x S1 ∧ argsD ds ρ S1 (fun vs S2 => bmD mt x vs S2 Q) Y) Y) σ H Q →
      tBM0 X.K (mtT b) (rMt b) (tE nm ad X.K H0 m0 es Xc do_) σ H Q := fun {b} eb ed σ H Q ⟨ρ, S, m, s, q⟩ => tE_of mo s q fun w S1 x H1 m1 e1 s1 r1 ⟨ty, q1⟩ => by
    subst eb; subst ed
    exact ⟨bm_ty ty s1.sim r1, bm_r (bmD_mono (fun _ _ p => p.ext e1) q1) s1.sim r1 .nil⟩
  have wk1 : ∀ {b : Mt}, b = mt → ∀ σ H Q, tE nm ad X.K H0 m0 es Xc (fun ρ S Q Y => do_ ρ S (fun x S1 => mtTy mt x S1 ∧ argsD ds ρ S1 (fun vs S2 => bmD mt x vs S2 Q) Y) Y) σ H Q →
      tBM X.K (mtT b) (rMt b) (tE nm ad X.K H0 m0 es Xc do_) (tL nm ad X.K H0 m0 es Xc (argsD ds)) σ H Q := fun {b} eb σ H Q ⟨ρ, S, m, s, q⟩ => tE_of mo s q fun w S1 x H1 m1 e1 s1 r1 ⟨ty, q1⟩ => by
    subst eb
    exact ⟨bm_ty ty s1.sim r1, ρ, S1, m1, s1, argsD_mono h.mon _ _ _ _ _ _ (fun vs S2 q2 ws H2 m2 e2 n2 r2 => bm_r (bmD_mono (fun _ _ p => p.ext (e1.trans e2)) q2) n2 (r1.ext e2) r2) (fun _ _ w => w) q1⟩
  cases h with
  | nil =>
    cases mt
    · exact (pe_bm0 PySem.F.plainAttrs_list PySem.F.slot_list_append PySem.F.type_list_append (r := rMt .append) mt_append ho (base_of hb) hline).wimp (wk0 rfl rfl)
    · exact (pe_bm0 PySem.F.plainAttrs_list PySem.F.slot_list_clear PySem.F.type_list_clear (r := rMt .clear) mt_clear ho (base_of hb) hline).wimp (wk0 rfl rfl)
    · exact (pe_bm0 PySem.F.plainAttrs_str PySem.F.slot_str_upper PySem.F.type_str_upper (r := rMt .upper) mt_upper ho (base_of hb) hline).wimp (wk0 rfl rfl)
    · exact (pe_bm0 PySem.F.plainAttrs_list PySem.F.slot_list_insert PySem.F.type_list_insert (r := rMt .insert) mt_insert ho (base_of hb) hline).wimp (wk0 rfl rfl)
    · exact (pe_bm0 PySem.F.plainAttrs_list PySem.F.slot_list_pop PySem.F.type_list_pop (r := rMt .popAt) mt_popAt ho (base_of hb) hline).wimp (wk0 rfl rfl)
    · exact (pe_bm0 PySem.F.plainAttrs_list PySem.F.slot_list_extend PySem.F.type_list_extend (r := rMt .extend) mt_extend ho (base_of hb) hline).wimp (wk0 rfl rfl)
    · exact (pe_bm0 PySem.F.plainAttrs_dict PySem.F.slot_dict_pop PySem.F.type_dict_pop (r := rMt .dpop1) mt_pop1 ho (base_of hb) hline).wimp (wk0 rfl rfl)
    · exact (pe_bm0 PySem.F.plainAttrs_dict PySem.F.slot_dict_pop PySem.F.type_dict_pop (r := rMt .dpop2) (DX.mt_popT (by omega)) ho (base_of hb) hline).wimp (wk0 rfl rfl)
    · exact (pe_bm0 PySem.F.plainAttrs_dict PySem.F.slot_dict_clear PySem.F.type_dict_clear (r := rMt .dclear) mtd_clear ho (base_of hb) hline).wimp (wk0 rfl rfl)
    · exact (pe_bm0 PySem.F.plainAttrs_dict PySem.F.slot_dict_get PySem.F.type_dict_get (r := rMt .dget1) (mt_get1 (by omega)) ho (base_of hb) hline).wimp (wk0 rfl rfl)
    · exact (pe_bm0 PySem.F.plainAttrs_dict PySem.F.slot_dict_get PySem.F.type_dict_get (r := rMt .dget2) (mt_get2 (by omega)) ho (base_of hb) hline).wimp (wk0 rfl rfl)
  | cons h1 h2 h3 h4 =>
    have pa := pa_of (.cons h1 h2 h3 h4)
    have hst : allStar _ = true := (SndL.cons h1 h2 h3 h4).star
    cases mt
    · exact (pe_bm PySem.F.plainAttrs_list PySem.F.slot_list_append PySem.F.type_list_append (r := rMt .append) mt_append ho pa (base_of hb) (few_of hx hst) hline (star_of h2) (noAny_of h4.star)).wimp (wk1 rfl)
    · exact (pe_bm PySem.F.plainAttrs_list PySem.F.slot_list_clear PySem.F.type_list_clear (r := rMt .clear) mt_clear ho pa (base_of hb) (few_of hx hst) hline (star_of h2) (noAny_of h4.star)).wimp (wk1 rfl)
    · exact (pe_bm PySem.F.plainAttrs_str PySem.F.slot_str_upper PySem.F.type_str_upper (r := rMt .upper) mt_upper ho pa (base_of hb) (few_of hx hst) hline (star_of h2) (noAny_of h4.star)).wimp (wk1 rfl)
    · exact (pe_bm PySem.F.plainAttrs_list PySem.F.slot_list_insert PySem.F.type_list_insert (r := rMt .insert) mt_insert ho pa (base_of hb) (few_of hx hst) hline (star_of h2) (noAny_of h4.star)).wimp (wk1 rfl)
    · exact (pe_bm PySem.F.plainAttrs_list PySem.F.slot_list_pop PySem.F.type_list_pop (r := rMt .popAt) mt_popAt ho pa (base_of hb) (few_of hx hst) hline (star_of h2) (noAny_of h4.star)).wimp (wk1 rfl)
    · exact (pe_bm PySem.F.plainAttrs_list PySem.F.slot_list_extend PySem.F.type_list_extend (r := rMt .extend) mt_extend ho pa (base_of hb) (few_of hx hst) hline (star_of h2) (noAny_of h4.star)).wimp (wk1 rfl)
    · exact (pe_bm PySem.F.plainAttrs_dict PySem.F.slot_dict_pop PySem.F.type_dict_pop (r := rMt .dpop1) mt_pop1 ho pa (base_of hb) (few_of hx hst) hline (star_of h2) (noAny_of h4.star)).wimp (wk1 rfl)
    · exact (pe_bm PySem.F.plainAttrs_dict PySem.F.slot_dict_pop PySem.F.type_dict_pop (r := rMt .dpop2) (DX.mt_popT (by omega)) ho pa (base_of hb) (few_of hx hst) hline (star_of h2) (noAny_of h4.star)).wimp (wk1 rfl)
    · exact (pe_bm PySem.F.plainAttrs_dict PySem.F.slot_dict_clear PySem.F.type_dict_clear (r := rMt .dclear) mtd_clear ho pa (base_of hb) (few_of hx hst) hline (star_of h2) (noAny_of h4.star)).wimp (wk1 rfl)
    · exact (pe_bm PySem.F.plainAttrs_dict PySem.F.slot_dict_get PySem.F.type_dict_get (r := rMt .dget1) (mt_get1 (by omega)) ho pa (base_of hb) (few_of hx hst) hline (star_of h2) (noAny_of h4.star)).wimp (wk1 rfl)
    · exact (pe_bm PySem.F.plainAttrs_dict PySem.F.slot_dict_get PySem.F.type_dict_get (r := rMt .dget2) (mt_get2 (by omega)) ho pa (base_of hb) (few_of hx hst) hline (star_of h2) (noAny_of h4.star)).wimp (wk1 rfl)

/-! ### d.items(), tuple keys -/
theorem frzT_at {X : Cx} {pins : List (Addr × Obj)} {σ : L2.St} {H : Hp} {s : Shared} {d : Addr} {o : Obj} {kvs : List (List L2.Key × V)} (I : Inv X pins σ H s) (h : H d = some (.frz o (.dT kvs))) :
    (d == sysModules) = false ∧ o.dict = none ∧ ∃ (es : Array DictEntry) (ep : Nat), o.data = .dict es ep ∧ DT.Raw s.heap d es ep ∧ es.size = kvs.length ∧
      ∀ (i : Nat) (k : List L2.Key) (v : V), kvs[i]? = some (k, v) → ∃ (hi : i < es.size) (q : Addr), es[i].key = .ref q ∧ H q = some (.tup (k.map kV)) ∧ RelV v es[i].val := by
  obtain ⟨hg, z, hs, xs, pr, o', es, ep, ho, hx, hdt, he, _⟩ := I.hok d _ h
  rw [hg] at ho
  cases ho
  refine ⟨hs, hx.2.1, es, ep, hdt, ⟨o, hg, hx, hdt⟩, (size_of_entries he).trans (Paired.length pr).symm, fun i k v e => ?_⟩
  obtain ⟨b, hb, _, e2, e3⟩ := paired_get pr e
  have q1 := entry_at he i
  rw [hb] at q1
  obtain ⟨hi, hv⟩ := Array.getElem?_eq_some_iff.mp q1
  exact ⟨hi, b.2.1, by rw [hv]; rfl, e2, by rw [hv]; exact e3⟩
/-- each pair a new tuple of the key's own tuple and the value -/
def ItiT (d : Addr) (o : Obj) (kvs : List (List L2.Key × V)) : L2.It :=
  ⟨fun i H => H d = some (.frz o (.dT kvs)) ∧ i < kvs.length, fun i H x H' => ∃ T k v q, kvs[i]? = some (k, v) ∧ x = .ref T ∧ H T = none ∧ H q = some (.tup (k.map kV)) ∧ H' = upd H T (.tup [.ref q, v]), fun i H => H d = some (.frz o (.dT kvs)) ∧ kvs.length ≤ i⟩
theorem turnT {P : Program} {w : World} {K : PySem.W.Frag} {d : Addr} {o : Obj} {es : Array DictEntry} {ep kk : Nat} {kvs : List (List L2.Key × V)} {elts : List Expr} {tpos : Pos} (it : Addr) (hod : o.data = .dict es ep) :
    Turn P w K (.Tuple elts kk tpos) (ItiT d o kvs) [it] it (fun i h => ∃ x y, IsItemIter h it d i kvs.length ep x y) where
  mem := List.mem_singleton.mpr rfl
  obj := fun i h ⟨x, y, st⟩ b hb => by
    cases List.mem_singleton.mp hb
    exact ⟨_, st, fun v z => nomatch z⟩
  keep := fun i h h' ⟨x, y, st⟩ k => ⟨x, y, k it (List.mem_singleton.mpr rfl) _ st⟩
  item := by
    intro X e1 e2 e3 hc i pins s σ H E I hf ⟨x, y, st⟩ ⟨hd, hi⟩
    subst e1 e2 e3
    obtain ⟨_, _, es2, ep2, hdt, raw, hsz, ent⟩ := frzT_at I hd
    obtain ⟨q1, q2⟩ := dict_ep hod hdt
    subst q1 q2
    obtain ⟨⟨k, v⟩, hkv⟩ : ∃ p, kvs[i]? = some p := ⟨kvs[i], List.getElem?_eq_getElem hi⟩
    obtain ⟨hi2, q, hq1, hq2, hq3⟩ := ent i k v hkv
    rw [← hsz] at st
    have hlt := Heap.lt_size st
    refine DT.nextI st raw hi2 fun h1 out hT _ hk => ⟨_, rfl, wpAny_letOwnedTupleGo_items (s := { s with heap := h1 }) out fun h2 st2 sb => ?_⟩
    have hT2 : h2.get? s.heap.objs.size = some { cls := .type "tuple", data := .seq #[es2[i].key, es2[i].val] } := (sb.2 _ (Nat.ne_of_gt hlt)).trans hT
    have new : ObjOk X.prog X.w (upd H s.heap.objs.size (.tup [.ref q, v])) h2 s.heap.objs.size (.tup [.ref q, v]) :=
      ⟨by show 2 ≤ sizeLine; decide, [es2[i].key, es2[i].val], .cons hq1 (.cons hq3 .nil), ⟨_, hT2, rfl, _, rfl⟩⟩
    have J := I.turnedNew (t' := s.toks) (ch := [it]) (fun b ob hb z => (sb.2 b (fun zz => hb (List.mem_singleton.mpr zz))).trans (hk b ob (fun zz => hb (List.mem_singleton.mpr zz)) z)) hf (Nat.le_refl _) new
    refine ⟨.ref s.heap.objs.size, _, J, rfl, ⟨_, k, v, q, hkv, rfl, I.hok.fresh (Nat.le_refl _), hq2, rfl⟩, ⟨_, _, by rw [← hsz]; exact st2⟩, fun b hb => ?_⟩
    cases List.mem_singleton.mp hb
    rw [upd_ne (Nat.ne_of_lt hlt)]
    exact (hf it (List.mem_singleton.mpr rfl)).1
  done := by
    intro X e1 e2 e3 hc i pins s σ H E I hf ⟨x, y, st⟩ ⟨hd, hi⟩
    subst e1 e2 e3
    obtain ⟨f0, f1, f2, f3, f4, f5⟩ := hf it (List.mem_singleton.mpr rfl)
    obtain ⟨_, _, es2, ep2, hdt, raw, hsz, _⟩ := frzT_at I hd
    obtain ⟨q1, q2⟩ := dict_ep hod hdt
    subst q1 q2
    rw [← hsz] at st hi
    exact DT.endI (I.ok.hd hc) st raw hi fun h1 eb => ⟨rfl, I.turned (t' := s.toks) (fun b ob hb z => eb b ob hb z) f0 f1 f3 f4 f5⟩
  self := fun A i s Q E ⟨x, y, st⟩ h => PySem.W.kcp_self st h
def iItemsT (td : TE) : TI := fun σ H R => td σ H fun x H1 => ∃ d o kvs, x = .ref d ∧ H1 d = some (.frz o (.dT kvs)) ∧ R (ItiT d o kvs) H1
theorem pi_itemsT {X : Cx} {e : Expr} {td : TE} {apos cpos tpos : Pos} {elts : List Expr} {kk : Nat} (he : PE X e td) (hbase : attributeBase e "items" X.env (eval e X.env) = eval e X.env) (hline : (apos.endLine == cpos.line) = true) :
    PI X (.Tuple elts kk tpos) (.Call (.Attribute e "items" apos) [] [] cpos) (iItemsT td) := by
  refine ⟨fun pins s σ H R I h => wpAny_Call_method (T := "dict") (id := "dict.items") hbase rfl hline PySem.F.plainAttrs_dict PySem.F.slot_dict_items PySem.F.type_dict_items (thn (he.run pins s σ H _ I h) fun u s1 ⟨x, H1, I1, rx, d, o, kvs, ex, hd, q⟩ => ?_)⟩
  subst ex
  cases (show u = Value.ref d from rx)
  obtain ⟨hs, hnd, es, ep, hdt, raw, hsz, _⟩ := frzT_at I1 hd
  have I2 : Inv X pins σ H1 { s1 with heap := s1.heap.push { cls := .type "dict_items", data := .fields #[.ref d] } } := I1.kept (t' := s1.toks) fun b ob z => Heap.get?_push_of_some _ z
  have fin : wpAny (model X.prog X.w) X.A (pyIter (.ref s1.heap.objs.size)) (PIE X pins σ (.Tuple elts kk tpos) R) X.xe { s1 with heap := s1.heap.push { cls := .type "dict_items", data := .fields #[.ref d] } } := by
    refine DT.iterI ⟨_, Heap.get?_push_size _ rfl, rfl, rfl⟩ (raw.push _) (pi_one (tk := s1.toks) I2 _ (turnT _ hdt) ⟨.none, .none, ?_⟩ q)
    rw [← hsz]
    exact Heap.get?_push_size _ rfl
  have nod : ∀ b, Value.ref d = .ref b → ∃ ob, s1.heap.get? b = some ob ∧ ob.dict = none := fun b z => by
    cases z
    obtain ⟨o2, g1, g2, _⟩ := raw
    exact ⟨o2, g1, g2.2.1⟩
  refine ⟨raw.typeIs, nod, ?_⟩
  show wpAny _ _ (callWith cpos (.builtin "dict.items") [.ref d] [] []) _ X.xe s1
  exact method_meetsIn PySem.F.slot_dict_items PySem.F.entry_dict_items rfl (PySem.evalArgs_none ⟨rfl, raw.typeIs, PySem.F.args_dict_items_1 _, _, DT.meetsItems (es := es) (ep := ep) hs, ⟨raw, fin⟩⟩)
/-! ### what is walked -/
structure ItOk (nm : Nm) (ad : Ad) (K : PySem.W.Frag) (J : L2.It) (xs : List D) (stay : Sto → Prop) (H1 : Hp) (m1 : List Addr) : Prop where
  go : ∀ (i : Nat) x H m S, xs[i]? = some x → Ext H1 m1 H m → Sim nm ad K H m S → stay S → J.go i H ∧ ∀ v H', J.yld i H v H' → Ext H m H' m ∧ Sim nm ad K H' m S ∧ Rep K H' m v x
  stop : ∀ (i : Nat) H m S, xs.length ≤ i → Ext H1 m1 H m → Sim nm ad K H m S → stay S → J.stop i H
variable (nm ad H0 m0 es Xc) in
def tI (K : PySem.W.Frag) (d : Env → Sto → (List D → (Sto → Prop) → Sto → Prop) → XD → Prop) : TI := fun σ H R => ∃ ρ S m, SimA nm ad K H0 m0 es σ H ρ S m ∧
  d ρ S (fun xs stay S1 => ∀ J H1 m1, Ext H m H1 m1 → Sim nm ad K H1 m1 S1 → ItOk nm ad K J xs stay H1 m1 → R J H1) fun k S' => Xc k ρ S'
theorem _root_.L2.PI.wimp {X : Cx} {tg e : Expr} {t t' : TI} (h : PI X tg e t) (w : ∀ σ H R, t' σ H R → t σ H R) : PI X tg e t' := ⟨fun pins s σ H R I q => h.run pins s σ H R I (w σ H R q)⟩
/-- a list or a tuple -/
def iDyn (K : PySem.W.Frag) (tl : TE) : TI := fun σ H R => tl σ H fun x H1 => ∃ a, x = .ref a ∧ (((∃ xs, SqL K H1 a xs) ∧ R (Itl K a) H1) ∨ ((∃ xs, SqT K H1 a xs) ∧ R (Itt K a) H1))
theorem pi_dyn {tg l : Expr} {tl : TE} (hl : PE X l tl) : PI X tg l (iDyn X.K tl) := by
  refine ⟨fun pins s σ H R I h => ?_⟩
  refine thn (hl.run pins s σ H _ I h) fun v s1 ⟨x, H1, I1, r1, q1⟩ => ?_
  obtain ⟨a, e, q1⟩ := q1
  subst e
  cases r1
  rcases q1 with ⟨⟨xs, hq⟩, q⟩ | ⟨⟨xs, hq⟩, q⟩
  · obtain ⟨its, rv, p, hz⟩ := I1.list hq
    refine wpAny_pyIter_list p.isList ?_
    refine ⟨s1.heap.objs.size, [s1.heap.objs.size], _, _, H1, rfl, I1.kept (t' := s1.toks) fun b o e => Heap.get?_push_of_some _ e, turn_list a _, ⟨_, Heap.get?_push_size _ rfl, rfl, rfl⟩, fun b hb => ?_, q⟩
    have e : b = s1.heap.objs.size := by simpa using hb
    subst e
    exact I1.fpOk (Nat.le_refl _) (I1.hok.fresh (Nat.le_refl _))
  · obtain ⟨its, rv, p, hz⟩ := I1.tuple hq
    refine wpAny_pyIter_tuple (show s1.heap.IsTuple a its.toArray from p) ?_
    refine ⟨s1.heap.objs.size, [s1.heap.objs.size], _, _, H1, rfl, I1.kept (t' := s1.toks) fun b o e => Heap.get?_push_of_some _ e, turn_tuple a _, ⟨_, Heap.get?_push_size _ rfl, rfl, rfl⟩, fun b hb => ?_, q⟩
    have e : b = s1.heap.objs.size := by simpa using hb
    subst e
    exact I1.fpOk (Nat.le_refl _) (I1.hok.fresh (Nat.le_refl _))
theorem stay_loc {xs : List D} {n : Nat} {S : Sto} (h : stayOf (.loc n) xs S) : lstAt S n = some xs := h
theorem itl_ok0 {K : PySem.W.Frag} {a : Addr} {xs : List D} {d : D} {H1 : Hp} {m1 : List Addr} {S1 : Sto} (r : Rep K H1 m1 (.ref a) d) (s : Sim nm ad K H1 m1 S1) (h : itemsOf S1 d = some xs) (hk : ∀ ks, d ≠ .key ks) :
    ((∃ vs, SqL K H1 a vs) ∧ ItOk nm ad K (Itl K a) xs (stayOf d xs) H1 m1) ∨ ((∃ vs, SqT K H1 a vs) ∧ ItOk nm ad K (Itt K a) xs (stayOf d xs) H1 m1) := by
  cases r with
  | tup h1 h2 =>
    cases h
    refine .inr ⟨⟨_, h1⟩, fun i x H m S hx e n st => ⟨?_, fun v H' hy => ?_⟩, fun i H m S hi e n st => ⟨_, e.sqt h1, by rw [h2.length]; exact hi⟩⟩
    · obtain ⟨v, hv, _⟩ := h2.get hx
      exact ⟨_, v, e.sqt h1, hv⟩
    · obtain ⟨e1, hy⟩ := hy
      subst e1
      obtain ⟨v', hv, hr⟩ := h2.get hx
      have := hy _ (e.sqt h1)
      rw [hv] at this; cases this
      exact ⟨.refl, n, hr.ext e⟩
  | rol h1 h2 =>
    cases h
    refine .inl ⟨⟨_, h1.sq⟩, fun i x H m S hx e n st => ⟨?_, fun v H' hy => ?_⟩, fun i H m S hi e n st => ⟨_, (e.rol h1).sq, by rw [h2.length]; exact hi⟩⟩
    · obtain ⟨v, hv, _⟩ := h2.get hx
      exact ⟨_, v, (e.rol h1).sq, hv⟩
    · obtain ⟨e1, hy⟩ := hy
      subst e1
      obtain ⟨v', hv, hr⟩ := h2.get hx
      have := hy _ (e.rol h1).sq
      rw [hv] at this; cases this
      exact ⟨.refl, n, hr.ext e⟩
  | loc hm =>
    obtain ⟨vs, g1, g2⟩ := s.lst hm h
    refine .inl ⟨⟨_, SqL.of g1⟩, fun i x H m S hx e n st => ?_, fun i H m S hi e n st => ?_⟩
    · obtain ⟨vs', q1, q2⟩ := n.lst (e.pre _ _ hm) (stay_loc st)
      obtain ⟨v, hv, hr⟩ := q2.get hx
      refine ⟨⟨_, v, SqL.of q1, hv⟩, fun v' H' hy => ?_⟩
      obtain ⟨e1, hy⟩ := hy
      subst e1
      have := hy _ (SqL.of q1)
      rw [hv] at this; cases this
      exact ⟨.refl, n, hr⟩
    · obtain ⟨vs', q1, q2⟩ := n.lst (e.pre _ _ hm) (stay_loc st)
      exact ⟨_, SqL.of q1, by rw [q2.length]; exact hi⟩
  | key h1 => exact absurd rfl (hk _)
theorem itl_ok {K : PySem.W.Frag} {a : Addr} {xs : List D} {d : D} {H1 : Hp} {m1 : List Addr} {S1 : Sto} (r : Rep K H1 m1 (.ref a) d) (s : Sim nm ad K H1 m1 S1) (h : itemsOf S1 d = some xs) :
    ((∃ vs, SqL K H1 a vs) ∧ ItOk nm ad K (Itl K a) xs (stayOf d xs) H1 m1) ∨ ((∃ vs, SqT K H1 a vs) ∧ ItOk nm ad K (Itt K a) xs (stayOf d xs) H1 m1) := by
  cases d with
  | key ks =>
    cases h
    have r2 := r.key_tup
    have g := itl_ok0 r2 s (rfl : itemsOf S1 (.tup (ks.map keyD)) = some (ks.map keyD)) fun _ e => by cases e
    exact g
  | _ => exact itl_ok0 r s h fun _ e => by cases e
theorem items_ref {K : PySem.W.Frag} {H : Hp} {m : List Addr} {S : Sto} {v : V} {d : D} {xs : List D} (r : Rep K H m v d) (h : itemsOf S d = some xs) : ∃ a, v = .ref a := by
  cases r <;> first | exact ⟨_, rfl⟩ | cases h
theorem rng_get {lo : Int} {n i : Nat} (h : i < n) : (rngD lo n)[i]? = some (.int (lo + (i : Nat))) := by
  unfold rngD
  rw [List.getElem?_map, List.getElem?_range h]
  rfl
theorem rng_len {lo : Int} {n : Nat} : (rngD lo n).length = n := by unfold rngD; simp
theorem itr_ok {K : PySem.W.Frag} {lo : Int} {n : Nat} {H1 : Hp} {m1 : List Addr} : ItOk nm ad K (Itr lo n) (rngD lo n) (fun _ => True) H1 m1 where
  go := fun i x H m S hx e s _ => by
    have hi : i < n := by
      have := (List.getElem?_eq_some_iff.mp hx).1
      rwa [rng_len] at this
    rw [rng_get hi] at hx
    cases hx
    refine ⟨hi, fun v H' hy => ?_⟩
    obtain ⟨e1, e2⟩ := hy
    subst e1; subst e2
    exact ⟨.refl, s, .int _⟩
  stop := fun i H m S hi e s _ => by rw [rng_len] at hi; exact hi
theorem enum_get : ∀ {xs : List D} {k i : Nat}, (enumD k xs)[i]? = (xs[i]?).map fun x => .tup [.int ((k + i : Nat) : Int), x]
  | [], _, _ => by simp [enumD]
  | x :: r, k, 0 => by simp [enumD]
  | x :: r, k, i + 1 => by
    rw [enumD, List.getElem?_cons_succ, List.getElem?_cons_succ, enum_get, show k + 1 + i = k + (i + 1) by omega]
theorem enum_len : ∀ {xs : List D} {k : Nat}, (enumD k xs).length = xs.length
  | [], _ => rfl
  | x :: r, k => congrArg (· + 1) enum_len
theorem ite_ok {K : PySem.W.Frag} {a : Addr} {n : Nat} {xs : List D} {H1 : Hp} {m1 : List Addr} (hm : m1[n]? = some a) : ItOk nm ad K (Ite K a) (enumD 0 xs) (fun S => lstAt S n = some xs) H1 m1 where
  go := fun i x H m S hx e s st => by
    rw [enum_get] at hx
    cases hxs : xs[i]? with
    | none => rw [hxs] at hx; cases hx
    | some y =>
      rw [hxs] at hx
      cases hx
      obtain ⟨vs, q1, q2⟩ := s.lst (e.pre _ _ hm) st
      obtain ⟨v, hv, hr⟩ := q2.get hxs
      refine ⟨⟨_, v, SqL.of q1, hv⟩, fun v' H' hy => ?_⟩
      obtain ⟨T, z, rfl, hT, rfl, hy⟩ := hy
      have := hy _ (SqL.of q1)
      rw [hv] at this; cases this
      refine ⟨ext_new hT, s.new hT, .tup (SqT.of upd_same) (.cons ?_ (.cons (hr.ext (ext_new hT)) .nil))⟩
      rw [Nat.zero_add]
      exact .int _
  stop := fun i H m S hi e s st => by
    rw [enum_len] at hi
    obtain ⟨vs, q1, q2⟩ := s.lst (e.pre _ _ hm) st
    exact ⟨_, SqL.of q1, by rw [q2.length]; exact hi⟩
theorem s_over {tg e : Expr} {d : Den} (h : PE X e (tE nm ad X.K H0 m0 es Xc d)) (hm : MonD d) : PI X tg e (tI nm ad H0 m0 es Xc X.K fun ρ S R Y => d ρ S (fun x S1 => ∃ xs, itemsOf S1 x = some xs ∧ R xs (stayOf x xs) S1) Y) :=
  (pi_dyn h).wimp fun σ H R ⟨ρ, S, m, s, q⟩ => tE_of hm s q fun w S1 x H1 m1 e1 s1 r1 ⟨xs, hx, q1⟩ => by
    obtain ⟨a, rfl⟩ := items_ref r1 hx
    refine ⟨a, rfl, ?_⟩
    rcases itl_ok r1 s1.sim hx with ⟨h1, h2⟩ | ⟨h1, h2⟩
    · exact .inl ⟨h1, q1 _ _ _ e1 s1.sim h2⟩
    · exact .inr ⟨h1, q1 _ _ _ e1 s1.sim h2⟩
theorem s_rng1 (hw : Wn X.K X.mg nm ad Γ) {tg e : Expr} {d : Den} {p pos : Pos} (hg : Gl X "range") (h : PE X e (tE nm ad X.K H0 m0 es Xc d)) (hm : MonD d) (hs : notStar e = true) :
    PI X tg (.Call (.Name "range" p) [e] [] pos) (tI nm ad H0 m0 es Xc X.K fun ρ S R Y => d ρ S (fun x S1 => ∃ n, x = .int n ∧ (-(2 ^ 62) ≤ n ∧ n < 2 ^ 62) ∧ R (rngD 0 n.toNat) (fun _ => True) S1) Y) :=
  (pi_range1 hg hw.grng (pa_cons h pa_nil (star_of hs)) (star_of hs)).wimp fun σ H R ⟨ρ, S, m, s, q⟩ => tE_of hm s q fun w S1 x H1 m1 e1 s1 r1 ⟨n, en, hn, q1⟩ => by
    subst en
    cases r1.int_inv
    exact ⟨n, rfl, hn.1, hn.2, q1 _ _ _ e1 s1.sim itr_ok⟩
theorem s_rng2 (hw : Wn X.K X.mg nm ad Γ) {tg e f : Expr} {d d' : Den} {p pos : Pos} (hg : Gl X "range") (h : PE X e (tE nm ad X.K H0 m0 es Xc d)) (hm : MonD d) (hs : notStar e = true) (h' : PE X f (tE nm ad X.K H0 m0 es Xc d')) (hm' : MonD d') (hs' : notStar f = true) :
    PI X tg (.Call (.Name "range" p) [e, f] [] pos) (tI nm ad H0 m0 es Xc X.K fun ρ S R Y => d ρ S (fun x S1 => d' ρ S1 (fun y S2 => ∃ i j, x = .int i ∧ y = .int j ∧ (-(2 ^ 62) ≤ i ∧ i < 2 ^ 62 ∧ -(2 ^ 62) ≤ j ∧ j < 2 ^ 62) ∧ R (rngD i (j - i).toNat) (fun _ => True) S2) Y) Y) :=
  (pi_range2 hg hw.grng (pa_cons h (pa_cons h' pa_nil (star_of hs')) (star_of hs)) (by rw [star_of hs, star_of hs']; rfl) (star_of hs')).wimp fun σ H R ⟨ρ, S, m, s, q⟩ => tE_of hm s q fun w S1 x H1 m1 e1 s1 r1 q1 =>
    tE_of hm' s1 q1 fun w2 S2 x2 H2 m2 e2 s2 r2 ⟨i, j, ei, ej, hn, q2⟩ => by
      subst ei; subst ej
      cases r1.int_inv; cases r2.int_inv
      exact ⟨i, j, rfl, hn, q2 _ _ _ (e1.trans e2) s2.sim itr_ok⟩
theorem s_keys {tg e : Expr} {d : Den} (h : PE X e (tE nm ad X.K H0 m0 es Xc d)) (hm : MonD d) :
    PI X tg e (tI nm ad H0 m0 es Xc X.K fun ρ S R Y => d ρ S (fun x S1 => ∃ (n : Nat) (kvs : List (L2.Key × D)), x = .loc n ∧ S1[n]? = some (.fk kvs) ∧ R (kvs.map fun p => keyD p.1) (fun S => S[n]? = some (.fk kvs)) S1) Y) :=
  (pi_keys h).wimp fun σ H R ⟨ρ, S, m, s, q⟩ => tE_of hm s q fun w S1 x H1 m1 e1 s1 r1 ⟨n, kvs, en, hx, q1⟩ => by
    subst en
    obtain ⟨a, rfl, ha⟩ := r1.loc_inv
    obtain ⟨r, ⟨o, g1⟩, g2⟩ := s1.sim.fk ha hx
    refine ⟨a, o, rfl, .inl ⟨r, g1, q1 _ _ _ e1 s1.sim ⟨fun i x H m S hi e2 s2 st => ?_, fun i H m S hi e2 s2 st => ⟨e2.frz _ _ _ g1, ?_⟩⟩⟩⟩
    · have hl : i < r.length := by
        have h1 := (List.getElem?_eq_some_iff.mp hi).1
        rw [List.length_map] at h1
        rw [g2.length]
        exact h1
      refine ⟨⟨e2.frz _ _ _ g1, hl⟩, fun v H' ⟨eh, k, w, hk, ev⟩ => ?_⟩
      subst eh; subst ev
      have e3 : (r.map (·.1))[i]? = some k := by rw [List.getElem?_map, hk]; rfl
      rw [g2.keys, List.getElem?_map] at e3
      rw [List.getElem?_map] at hi
      cases hq : kvs[i]? with
      | none => rw [hq] at hi; cases hi
      | some p =>
        rw [hq] at hi e3
        cases hi
        cases e3
        exact ⟨.refl, s2, keyD_rep⟩
    · rw [List.length_map] at hi
      rw [g2.length]
      exact hi
theorem s_items {e : Expr} {d : Den} {apos cpos tpos : Pos} {elts : List Expr} {kk : Nat} (h : PE X e (tE nm ad X.K H0 m0 es Xc d)) (hm : MonD d) (hb : baseOk e = true) (hline : (apos.endLine == cpos.line) = true) :
    PI X (.Tuple elts kk tpos) (.Call (.Attribute e "items" apos) [] [] cpos) (tI nm ad H0 m0 es Xc X.K fun ρ S R Y => d ρ S (fun x S1 => ∃ (n : Nat) (kvs : List (List L2.Key × D)), x = .loc n ∧ S1[n]? = some (.ft kvs) ∧ R (kvs.map fun p => .tup [.key p.1, p.2]) (fun S => S[n]? = some (.ft kvs)) S1) Y) :=
  (pi_itemsT h (base_of hb) hline).wimp fun σ H R ⟨ρ, S, m, s, q⟩ => tE_of hm s q fun w S1 x H1 m1 e1 s1 r1 ⟨n, kvs, en, hx, q1⟩ => by
    subst en
    obtain ⟨a, rfl, ha⟩ := r1.loc_inv
    obtain ⟨r, ⟨o, g1⟩, g2⟩ := s1.sim.ft ha hx
    refine ⟨a, o, r, rfl, g1, q1 _ _ _ e1 s1.sim ⟨fun i x H m S hi e2 s2 st => ?_, fun i H m S hi e2 s2 st => ⟨e2.frz _ _ _ g1, ?_⟩⟩⟩
    · have hl : i < r.length := by
        have h1 := (List.getElem?_eq_some_iff.mp hi).1
        rw [List.length_map] at h1
        rw [g2.length]
        exact h1
      refine ⟨⟨e2.frz _ _ _ g1, hl⟩, fun v H' ⟨T, k, w, q, hk, ev, hT, hq, eh⟩ => ?_⟩
      subst eh; subst ev
      rw [List.getElem?_map] at hi
      cases hp : kvs[i]? with
      | none => rw [hp] at hi; cases hi
      | some p =>
        rw [hp] at hi
        cases hi
        have g3 := (g2.extw e2.w)
        have key : ∀ {r : List (List L2.Key × V)} {s : List (List L2.Key × D)}, KReps X.K H m r s → ∀ {i : Nat} {k : List L2.Key} {w : V} {p : List L2.Key × D}, r[i]? = some (k, w) → s[i]? = some p → p.1 = k ∧ Rep X.K H m w p.2 := by
          intro r s rr
          induction rr with
          | nil => intro i k w p h1 h2; cases h1
          | cons a _ ih =>
            intro i k w p h1 h2
            cases i with
            | zero => cases h1; cases h2; exact ⟨rfl, a⟩
            | succ i => exact ih h1 h2
        obtain ⟨k1, k2⟩ := key g3 hk hp
        have ex := ext_new (m := m) (o := HO.tup [.ref q, w]) hT
        refine ⟨ex, s2.new hT, .tup (SqT.of upd_same) (.cons (.key ?_) (.cons (k2.ext ex) .nil))⟩
        rw [k1]
        rw [upd_ne (ne_of_none hq hT)]
        exact hq
    · rw [List.length_map] at hi
      rw [g2.length]
      exact hi
theorem s_enum (hw : Wn X.K X.mg nm ad Γ) {e : Expr} {elts : List Expr} {kk : Nat} {d : Den} {tp p pos : Pos} (hg : Gl X "enumerate") (h : PE X e (tE nm ad X.K H0 m0 es Xc d)) (hm : MonD d) (hs : notStar e = true) :
    PI X (.Tuple elts kk tp) (.Call (.Name "enumerate" p) [e] [] pos) (tI nm ad H0 m0 es Xc X.K fun ρ S R Y => d ρ S (fun x S1 => ∃ n xs, x = .loc n ∧ lstAt S1 n = some xs ∧ R (enumD 0 xs) (stayOf x xs) S1) Y) :=
  (pi_enum hg hw.genum (pa_cons h pa_nil (star_of hs)) (star_of hs)).wimp fun σ H R ⟨ρ, S, m, s, q⟩ => tE_of hm s q fun w S1 x H1 m1 e1 s1 r1 ⟨n, xs, en, hx, q1⟩ => by
    subst en
    obtain ⟨a, vs, rfl, ha, g1, g2⟩ := r1.lst_inv s1.sim hx
    exact ⟨a, vs, rfl, SqL.of g1, q1 _ _ _ e1 s1.sim (ite_ok ha)⟩
end
end Wp

/-! the calculus against the hand layer: targets, comprehensions, all expressions -/
namespace Wp
open PySem PySem.Spec PyProof.Rows L2

/-! ### targets -/
def gNames : List Nat → TGs
  | [] => gNil
  | i :: is => gCons (gName i) (gNames is)
def gTg (K : PySem.W.Frag) : Tg → TG
  | .nm i => gName i
  | .tp is => gTup K is.length (gNames is)
structure Agree (is : List Nat) (σ σ' : L2.St) : Prop where
  len : σ'.length = σ.length
  off : ∀ j, j ∉ is → σ'[j]? = σ[j]?
theorem wipe_get {σ : L2.St} {j : Nat} : ∀ {vs : List Nat}, (wipe σ vs)[j]? = if j ∈ vs then (σ[j]?).map (fun _ => none) else σ[j]?
  | [] => by simp [wipe]
  | v :: vs => by
    show ((wipe σ vs).set v none)[j]? = _
    by_cases h : v = j
    · subst h
      rw [if_pos List.mem_cons_self]
      by_cases hl : v < σ.length
      · rw [List.getElem?_set_self (by rw [wipe_length]; exact hl), List.getElem?_eq_getElem hl]
        rfl
      · rw [List.getElem?_eq_none (by rw [List.length_set, wipe_length]; omega), List.getElem?_eq_none (by omega)]
        rfl
    · rw [List.getElem?_set_ne h, wipe_get]
      by_cases hj : j ∈ vs
      · rw [if_pos hj, if_pos (List.mem_cons_of_mem _ hj)]
      · rw [if_neg hj, if_neg (fun z => (List.mem_cons.mp z).elim (fun e => h e.symm) hj)]
theorem wipe_agree {σ σ' : L2.St} {vs : List Nat} (a : Agree vs (wipe σ vs) σ') : wipe σ' vs = wipe σ vs := by
  refine List.ext_getElem? fun j => ?_
  rw [wipe_get, wipe_get]
  by_cases hj : j ∈ vs
  · rw [if_pos hj, if_pos hj]
    by_cases hl : j < σ.length
    · rw [List.getElem?_eq_getElem hl, List.getElem?_eq_getElem (by rw [a.len, wipe_length]; exact hl)]
      rfl
    · rw [List.getElem?_eq_none (show σ.length ≤ j by omega), List.getElem?_eq_none (show σ'.length ≤ j by rw [a.len, wipe_length]; omega)]
  · rw [if_neg hj, if_neg hj, a.off j hj, wipe_get, if_neg hj]
theorem wipeE_some {ρ : Env} {i : Nat} {d : D} : ∀ {vs : List Nat}, (wipeE ρ vs)[i]? = some (some d) → ρ[i]? = some (some d) ∧ i ∉ vs
  | [], h => ⟨h, by simp⟩
  | v :: vs, h => by
    have h : ((wipeE ρ vs).set v none)[i]? = some (some d) := h
    by_cases hi : v = i
    · subst hi
      by_cases hv : v < (wipeE ρ vs).length
      · rw [List.getElem?_set_self hv] at h; cases h
      · rw [List.getElem?_eq_none (by simpa using hv)] at h; cases h
    · rw [List.getElem?_set_ne hi] at h
      obtain ⟨h1, h2⟩ := wipeE_some h
      exact ⟨h1, by simp only [List.mem_cons, not_or]; exact ⟨fun e => hi e.symm, h2⟩⟩
theorem wipeE_out {ρ : Env} {i : Nat} : ∀ {vs : List Nat}, i ∉ vs → (wipeE ρ vs)[i]? = ρ[i]?
  | [], _ => rfl
  | v :: vs, h => by
    unfold wipeE
    rw [List.getElem?_set_ne fun e => h (by rw [e]; exact List.mem_cons_self), wipeE_out fun z => h (List.mem_cons_of_mem _ z)]
theorem names_slots {c : Ck} : ∀ {is : List Nat} {es : List Expr}, chkNames c is es = true → ∀ j ∈ is, j ∉ c.es
  | [], _, _ => fun j hj => by cases hj
  | _ :: _, [], h => by cases h
  | i :: is, e :: es, h => fun j hj => by
    rw [chkNames, Bool.and_eq_true] at h
    rcases List.mem_cons.mp hj with e2 | hj
    · have h1 := h.1
      unfold chkName at h1
      split at h1
      · simp only [Bool.and_eq_true, Bool.not_eq_true'] at h1
        subst e2
        exact fun z => by rw [List.contains_iff_mem.mpr z] at h1; cases h1.2
      · cases h1
    · exact names_slots h.2 j hj
theorem tg_slots {c : Ck} {tg : Tg} {e : Expr} (h : chkTg c tg e = true) : ∀ j ∈ tg.slots, j ∉ c.es := by
  unfold chkTg at h
  split at h
  · simp only [Bool.and_eq_true, Bool.not_eq_true'] at h
    intro j hj z
    cases List.mem_singleton.mp hj
    rw [List.contains_iff_mem.mpr z] at h
    cases h.2
  · rw [Bool.and_eq_true] at h
    exact names_slots h.2
  · cases h
theorem wipeE_length (ρ : Env) : ∀ vs : List Nat, (wipeE ρ vs).length = ρ.length
  | [] => rfl
  | v :: vs => by unfold wipeE; rw [List.length_set, wipeE_length ρ vs]
section
variable {nm : Nm} {ad : Ad} {K : PySem.W.Frag} {H H' H0 : Hp} {m m' m0 : List Addr} {S S' : Sto} {σ : L2.St} {ρ : Env} {es : Es}
theorem SimA.wipe (s : SimA nm ad K H0 m0 es σ H ρ S m) (vs : List Nat) (hvs : ∀ j ∈ vs, j ∉ es.1) : SimA nm ad K H0 m0 es (L2.wipe σ vs) H (wipeE ρ vs) S m :=
  ⟨s.sim, by rw [wipeE_length, wipe_length]; exact s.len, fun i d h hi => by
    obtain ⟨h1, h2⟩ := wipeE_some h
    obtain ⟨v, h3, h4⟩ := s.at_ i d h1 hi
    exact ⟨v, by rw [wipe_out h2]; exact h3, h4⟩, s.anc, fun p hp => by
    obtain ⟨h1, h2, h3⟩ := s.hold p hp
    have e : p.1 ∉ vs := fun e => hvs _ e h1
    exact ⟨h1, by rw [wipe_out e]; exact h2, by rw [wipeE_out e]; exact h3⟩⟩
theorem names_r : ∀ {is : List Nat} {vs : List V} {ds : List D} {σ : L2.St} {ρ ρ' : Env}, (∀ j ∈ is, j ∉ es.1) → SimA nm ad K H0 m0 es σ H ρ S m → Reps K H m vs ds → setAll is ds ρ = some ρ' → ∀ {R : L2.St → Hp → Prop},
    (∀ σ', Agree is σ σ' → SimA nm ad K H0 m0 es σ' H ρ' S m → R σ' H) → gNames is vs σ H R
  | [], _, _, σ, ρ, ρ', _, s, .nil, h, R, k => by
    cases h
    exact ⟨rfl, k σ ⟨rfl, fun _ _ => rfl⟩ s⟩
  | [], _, _, σ, ρ, ρ', _, s, .cons a b, h, R, k => by cases h
  | i :: is, _, _, σ, ρ, ρ', _, s, .nil, h, R, k => by cases h
  | i :: is, _, _, σ, ρ, ρ', hi, s, .cons a b, h, R, k => by
    refine ⟨_, _, rfl, ?_⟩
    show gNames is _ (σ.set i (some _)) H R
    refine names_r (fun j hj => hi j (List.mem_cons_of_mem _ hj)) (s.set a (hi i List.mem_cons_self)) b h fun σ' ag s' => k σ' ⟨by rw [ag.len, List.length_set], fun j hj => ?_⟩ s'
    rw [ag.off j fun z => hj (List.mem_cons_of_mem _ z), List.getElem?_set_ne fun e => hj (by rw [e]; exact List.mem_cons_self)]
theorem tg_r {tg : Tg} {d : D} {v : V} {k0 : Env → Prop} (hi : ∀ j ∈ tg.slots, j ∉ es.1) (s : SimA nm ad K H0 m0 es σ H ρ S m) (r : Rep K H m v d) (h : tgD tg d ρ k0) {R : L2.St → Hp → Prop}
    (k : ∀ σ' ρ', Agree tg.slots σ σ' → SimA nm ad K H0 m0 es σ' H ρ' S m → k0 ρ' → R σ' H) : gTg K tg v σ H R := by
  unfold tgD at h
  split at h
  · rename_i i
    refine k _ _ ⟨List.length_set, fun j hj => ?_⟩ (s.set r (hi _ (List.mem_singleton.mpr rfl))) h
    exact List.getElem?_set_ne fun e => hj (by rw [← e]; exact List.mem_singleton.mpr rfl)
  · rename_i is ds
    obtain ⟨ρ', h1, h2⟩ := h
    obtain ⟨a, vs, rfl, g1, g2⟩ := r.tup_inv
    have hl : ∀ {is : List Nat} {ds : List D} {ρ ρ' : Env}, setAll is ds ρ = some ρ' → ds.length = is.length := by
      intro is
      induction is with
      | nil => intro ds ρ ρ' h; cases ds <;> first | rfl | cases h
      | cons i is ih => intro ds ρ ρ' h; cases ds with | nil => cases h | cons d ds => exact congrArg (· + 1) (ih h)
    exact ⟨a, vs, rfl, g1, by rw [g2.length]; exact hl h1, names_r hi s g2 h1 fun σ' ag s' => k σ' ρ' ag s' h2⟩
  · rename_i is ds
    obtain ⟨ρ', h1, h2⟩ := h
    obtain ⟨a, vs, rfl, g1, g2⟩ := r.key_tup.tup_inv
    have hl : ∀ {is : List Nat} {ds : List D} {ρ ρ' : Env}, setAll is ds ρ = some ρ' → ds.length = is.length := by
      intro is
      induction is with
      | nil => intro ds ρ ρ' h; cases ds <;> first | rfl | cases h
      | cons i is ih => intro ds ρ ρ' h; cases ds with | nil => cases h | cons d ds => exact congrArg (· + 1) (ih h)
    exact ⟨a, vs, rfl, g1, by rw [g2.length]; exact hl h1, names_r hi s g2 h1 fun σ' ag s' => k σ' ρ' ag s' h2⟩
  · exact h.elim
end
section
variable {X : Cx} {c : Ck} {nm : Nm} {ad : Ad} {Γ : Tab} {H0 : Hp} {m0 : List Addr} {es : Es} {Xc : Nat → Env → Sto → Prop}
theorem pgs_of (hc : CtxOk X c) : ∀ {is : List Nat} {es : List Expr}, chkNames c is es = true → PGs X es (gNames is) ∧ (assignEach es X.env).length = is.length ∧ (assignEach es X.env).findIdx? (·.1) = none ∧ es.length = is.length
  | [], [], _ => ⟨pgs_nil, rfl, rfl, rfl⟩
  | [], _ :: _, h => by cases h
  | _ :: _, [], h => by cases h
  | i :: is, e :: es, h => by
    rw [chkNames, Bool.and_eq_true] at h
    obtain ⟨h1, h2⟩ := h
    unfold chkName at h1
    split at h1
    · rename_i x p
      simp only [Bool.and_eq_true, decide_eq_true_eq] at h1
      obtain ⟨⟨⟨h1, h3⟩, h4⟩, _⟩ := h1
      obtain ⟨l1, l2⟩ := hc.loc h3
      obtain ⟨g1, g2, g3, g4⟩ := pgs_of hc h2
      refine ⟨pgs_cons (pg_name hc.nd (by rw [hc.N]; exact h1) l1 l2) g1, congrArg (· + 1) g2, ?_, congrArg (· + 1) g4⟩
      show List.findIdx? _ ((false, _) :: assignEach es X.env) = none
      rw [List.findIdx?_cons]
      simp [g3]
    · cases h1
theorem pg_of (hc : CtxOk X c) {tg : Tg} {e : Expr} (h : chkTg c tg e = true) : PG X e (gTg X.K tg) := by
  unfold chkTg at h
  split at h
  · simp only [Bool.and_eq_true, decide_eq_true_eq] at h
    obtain ⟨⟨⟨h1, h3⟩, h4⟩, _⟩ := h
    obtain ⟨l1, l2⟩ := hc.loc h3
    exact pg_name hc.nd (by rw [hc.N]; exact h1) l1 l2
  · rw [Bool.and_eq_true] at h
    obtain ⟨g1, g2, g3, g4⟩ := pgs_of hc h.2
    exact pg_tup (hc.calm h.1).1 g1 g2 g3
  · cases h
theorem pts_of {ds : List DenT} {ifs : List Expr} (hl : ifs.length ≤ 1) (h : SndT X nm ad H0 m0 es Xc ds ifs) : PTs X ifs (tB' nm ad X.K H0 m0 es Xc (andsT ds)) := by
  cases h with
  | nil => exact ⟨fun pins s σ H Q I ⟨ρ, S, m, sm, q⟩ => pts_nil.run pins s σ H Q I (q _ _ .refl sm.sim)⟩
  | cons h1 h2 h3 =>
    cases h3 with
    | nil => exact ⟨fun pins s σ H Q I ⟨ρ, S, m, sm, q⟩ => (pts_one h1).run pins s σ H Q I ⟨ρ, S, m, sm, h2 _ _ _ _ _ _ (fun b S1 q => by cases b with | true => exact q.1 rfl | false => exact q.2 rfl) (fun _ _ w => w) q⟩⟩
    | cons _ _ _ => simp at hl
theorem lc_wk {tg : Tg} (hsl : ∀ j ∈ tg.slots, j ∉ es.1) {own : List (Str × Nat)} {dI : Env → Sto → (List D → (Sto → Prop) → Sto → Prop) → XD → Prop} {dt : List DenT} {de : Den}
    (ho : own.map (·.2) = tg.slots) (mi : MonI dI) (mt : ∀ d ∈ dt, MonT d) (me : MonD de) (σ : L2.St) (H : Hp) (Q : VK) (hq : tE nm ad X.K H0 m0 es Xc (fun ρ S Q Y => dI ρ S (fun xs stay S1 =>
      lcD S1.length stay (fun x k => tgD tg x (wipeE ρ tg.slots) k) (fun ρ' S2 k => andsT dt ρ' S2 k (fun _ _ => False)) (fun ρ' S2 k => de ρ' S2 k (fun _ _ => False)) xs (S1 ++ [.lst []]) (fun S3 => Q (.loc S1.length) S3)) Y) σ H Q) :
    tLc (tI nm ad H0 m0 es Xc X.K dI) (gTg X.K tg) (tB' nm ad X.K H0 m0 es (fun _ _ _ => False) (andsT dt)) (tE nm ad X.K H0 m0 es (fun _ _ _ => False) de) (own.map (·.2)) σ H Q := by
  obtain ⟨ρ, S, m, s, q⟩ := hq
  refine ⟨ρ, S, m, s, mi _ _ _ _ _ _ (fun xs stay S1 q1 J H1 m1 e1 n1 it D hD => ?_) (fun _ _ w => w) q⟩
  rw [ho]
  have hDm : (m1 ++ [D])[S1.length]? = some D := by rw [← n1.len]; exact get_last
  refine ⟨fun i k H2 => k = xs.length - i ∧ i ≤ xs.length ∧ ∃ S2 m2, Ext H1 m1 H2 m2 ∧ Sim nm ad X.K H2 m2 S2 ∧ m2[S1.length]? = some D ∧
    lcD S1.length stay (fun x k => tgD tg x (wipeE ρ tg.slots) k) (fun ρ' S2 k => andsT dt ρ' S2 k (fun _ _ => False)) (fun ρ' S2 k => de ρ' S2 k (fun _ _ => False)) (xs.drop i) S2 (fun S3 => Post nm ad X.K H m Q (.loc S1.length) S3), ?_, ?_⟩
  · exact ⟨xs.length, by simp, Nat.zero_le _, S1 ++ [.lst []], m1 ++ [D], ext_snoc hD, n1.push (x := .lst []) hD ⟨[], upd_same, .nil⟩, hDm, by simpa using q1⟩
  · rintro i k H2 ⟨rfl, hle, S2, m2, e2, n2, hm2, w⟩
    by_cases hlt : i < xs.length
    · rw [List.drop_eq_getElem_cons hlt] at w
      obtain ⟨st, w⟩ := w
      obtain ⟨g, yl⟩ := it.go i _ H2 m2 S2 (List.getElem?_eq_getElem hlt) e2 n2 st
      refine .inr ⟨g, fun H' => ∃ S3 m3, Ext H1 m1 H' m3 ∧ Sim nm ad X.K H' m3 S3 ∧ m3[S1.length]? = some D ∧
        lcD S1.length stay (fun x k => tgD tg x (wipeE ρ tg.slots) k) (fun ρ' S2 k => andsT dt ρ' S2 k (fun _ _ => False)) (fun ρ' S2 k => de ρ' S2 k (fun _ _ => False)) (xs.drop (i + 1)) S3 (fun S3 => Post nm ad X.K H m Q (.loc S1.length) S3),
        fun H' ⟨S3, m3, a1, a2, a3, a4⟩ => ⟨xs.length - (i + 1), by omega, rfl, hlt, S3, m3, a1, a2, a3, a4⟩, fun x H3 hy => ?_⟩
      obtain ⟨e3, n3, r3⟩ := yl x H3 hy
      have s3 : SimA nm ad X.K H0 m0 es σ H3 ρ S2 m2 := s.step (e1.trans (e2.trans e3)) n3
      refine tg_r hsl (s3.wipe _ hsl) r3 w fun σ2 ρ2 ag s4 w2 => ⟨wipe_agree ag, ?_⟩
      refine tB_of (Xc := fun _ _ _ => False) (andsT_mono mt) s4 w2 fun b S5 H5 m5 e5 s5 q5 => ?_
      cases b with
      | true =>
        rw [if_pos rfl]
        refine tE_of (Xc := fun _ _ _ => False) me s5 (q5.1 rfl) fun v S6 y H6 m6 e6 s6 r6 ⟨acc, a1, a2, a3⟩ => ?_
        have hm6 := e6.pre _ _ (e5.pre _ _ hm2)
        obtain ⟨vs, g1, g2⟩ := s6.sim.lst hm6 a1
        refine ⟨vs, g1, by rw [g2.length, sz16]; exact a2, setLst S6 S1.length (acc ++ [v]), m6, ?_, ?_, hm6, a3⟩
        · exact (e2.trans (e3.trans (e5.trans e6))).trans (ext_mut (mu_of g1 trivial))
        · have em := ext_mut (m := m6) (o := .lst (vs ++ [y])) (mu_of g1 trivial)
          exact s6.sim.upd (mu_of g1 trivial) hm6 ⟨_, upd_same, (g2.append (.cons r6 .nil)).ext em⟩
      | false =>
        rw [if_neg Bool.false_ne_true]
        exact ⟨S5, m5, e2.trans (e3.trans e5), s5.sim, e5.pre _ _ hm2, q5.2 rfl⟩
    · have hi : i = xs.length := by omega
      subst hi
      rw [List.drop_eq_nil_of_le (Nat.le_refl _)] at w
      exact .inl ⟨it.stop _ H2 m2 S2 (Nat.le_refl _) e2 n2 w.1, w.2 _ _ _ (e1.trans e2) n2 (.loc hm2)⟩
theorem s_lc (hcalm : X.calm = true) (hN : X.N.Nodup) {tg : Tg} (hsl : ∀ j ∈ tg.slots, j ∉ es.1) {elt t i : Expr} {ifs : List Expr} {scope : Scope} {own : List (Str × Nat)} {pos : Pos} {dI : Env → Sto → (List D → (Sto → Prop) → Sto → Prop) → XD → Prop} {dt : List DenT} {de : Den}
    (hi : PI X t i (tI nm ad H0 m0 es Xc X.K dI)) (ok : BlkOk X.N X.env.scope scope own) (ho : own.map (·.2) = tg.slots) (mi : MonI dI) (mt : ∀ d ∈ dt, MonT d) (me : MonD de)
    (hg : ∀ (s : Shared) (H : Hp) (C : Addr) (cl : List (Str × Addr)) (fp : List Addr), PG (X.blk s H scope (compEnvC scope cl C X.env) fp) t (gTg X.K tg))
    (ht : ∀ (s : Shared) (H : Hp) (C : Addr) (cl : List (Str × Addr)) (fp : List Addr), PTs (X.blk s H scope (compEnvC scope cl C X.env) fp) ifs (tB' nm ad X.K H0 m0 es (fun _ _ _ => False) (andsT dt)))
    (he : ∀ (s : Shared) (H : Hp) (C : Addr) (cl : List (Str × Addr)) (fp : List Addr), PE (X.blk s H scope (compEnvC scope cl C X.env) fp) elt (tE nm ad X.K H0 m0 es (fun _ _ _ => False) de)) (hs : notSet i = true) :
    PE X (.ListComp elt [⟨t, i, ifs, 0⟩] scope pos) (tE nm ad X.K H0 m0 es Xc fun ρ S Q Y => dI ρ S (fun xs stay S1 =>
      lcD S1.length stay (fun x k => tgD tg x (wipeE ρ tg.slots) k) (fun ρ' S2 k => andsT dt ρ' S2 k (fun _ _ => False)) (fun ρ' S2 k => de ρ' S2 k (fun _ _ => False)) xs (S1 ++ [.lst []]) (fun S3 => Q (.loc S1.length) S3)) Y) :=
  (pe_lc hcalm hN hi ok hg ht he (set_of hs)).wimp fun σ H Q q => lc_wk hsl ho mi mt me σ H Q q
end
end Wp

/-! the calculus against the hand layer: all expressions -/
namespace Wp
open PySem PySem.Spec PyProof.Rows L2
/-- all that an expression's rule asks of its context -/
structure Cg (X : Cx) (c : Ck) (nm : Nm) (ad : Ad) (Γ : Tab) (H0 : Hp) (m0 : List Addr) (hs : List (Nat × Addr × Nat)) (Xc : Nat → Env → Sto → Prop) : Prop where
  w : Wo X.prog X.w X.K X.mg X.base nm ad Γ c.k
  o : CtxOk X c
  t : Takes X (WOf nm ad X.K H0 m0 (c.es, hs) Xc)
  xs : ∀ i ∈ c.es, ∃ a k, (i, a, k) ∈ hs ∧ CallR X (.builtin "isinstance") (rIsX X.K (ad.ex k) a) ∧ ∀ f, nm.isx f = true → nm.lv f ≠ 0 → nm.lv f ≤ c.k → CallR X (.ref (ad.fn f)) (rFx nm ad Γ X.K f a k) ∧ PySem.W.keepIn X.K (.ref (ad.fn f)) = true
theorem Cg.hu {X : Cx} {c : Ck} {nm : Nm} {ad : Ad} {Γ : Tab} {H0 : Hp} {m0 : List Addr} {hs : List (Nat × Addr × Nat)} {Xc : Nat → Env → Sto → Prop} (g : Cg X c nm ad Γ H0 m0 hs Xc) (h : c.calm = true) : X.A.units + 130 < cLine := by have := (g.o.calm h).2.un; omega
theorem Cg.blk {X : Cx} {c : Ck} {nm : Nm} {ad : Ad} {Γ : Tab} {H0 : Hp} {m0 : List Addr} {hs : List (Nat × Addr × Nat)} {Xc : Nat → Env → Sto → Prop} (g : Cg X c nm ad Γ H0 m0 hs Xc) (hes : c.es.isEmpty = true) {scope : Scope} (s : Shared) (H : Hp) (C : Addr) (cl : List (Str × Addr)) (fp : List Addr) : Cg (X.blk s H scope (compEnvC scope cl C X.env) fp) (c.blk scope) nm ad Γ H0 m0 hs fun _ _ _ => False where
  w := g.w
  o := ⟨g.o.N, g.o.nd, by
    show relabel scope X.env = relS scope c.sc
    rw [← g.o.sc]
    rfl, fun x h => by
    have h' := of_decide_eq_true h
    show (scope.names.lookup x == some .cell) = true
    rw [h']
    rfl, g.o.calm⟩
  t := fun u s' ⟨_, _, _, _, _, _, _, _, _, _, _, _, _, _, _, _, w⟩ => by
    obtain ⟨_, _, _, _, _, _, _, z⟩ := w
    exact z.elim
  xs := fun i hi => by
    have e : c.es = [] := List.isEmpty_iff.mp hes
    have hi : i ∈ c.es := hi
    rw [e] at hi
    cases hi
theorem own_slots (N : List Str) (is : List Nat) : (ownOf N is).map (·.2) = is := by
  unfold ownOf
  rw [List.map_map]
  show is.map (fun i => i) = is
  exact List.map_id _
section
variable {nm : Nm} {ad : Ad} {Γ : Tab} {H0 : Hp} {m0 : List Addr} {hs : List (Nat × Addr × Nat)}
mutual
theorem sE : ∀ (p : E) {X : Cx} {c : Ck} {Xc : Nat → Env → Sto → Prop} (e : Expr), Cg X c nm ad Γ H0 m0 hs Xc → chkE nm Γ.init p c e = true → PE X e (tE nm ad X.K H0 m0 (c.es, hs) Xc (den Γ p))
  | .var i, X, c, Xc, e, g, h => by
    unfold chkE at h
    split at h
    · simp only [Bool.and_eq_true, decide_eq_true_eq, Bool.not_eq_true'] at h
      exact s_var (Γ := Γ) g.o h.1.1.1 h.1.1.2 h.1.2 (fun z => by have := h.2; rw [List.contains_iff_mem.mpr z] at this; cases this)
    · cases h
  | .int k, X, c, Xc, e, g, h => by
    unfold chkE at h
    split at h
    · cases of_decide_eq_true h
      exact s_c pe_int fun _ _ => .int k
    · cases h
  | .bl b, X, c, Xc, e, g, h => by
    unfold chkE at h
    split at h
    · cases of_decide_eq_true h
      exact s_c pe_bl fun _ _ => .bl b
    · cases h
  | .str b, X, c, Xc, e, g, h => by
    unfold chkE at h
    split at h
    · cases of_decide_eq_true h
      exact s_c pe_str fun _ _ => .str b
    · cases h
  | .non, X, c, Xc, e, g, h => by
    unfold chkE at h
    split at h
    · exact s_c pe_non fun _ _ => .non
    · cases h
  | .glob i, X, c, Xc, e, g, h => by
    unfold chkE at h
    split at h
    · simp only [Bool.and_eq_true, decide_eq_true_eq] at h
      obtain ⟨v, u, h1, h2, h3⟩ := g.w.n.gglb i _ h.1.1
      exact s_c (pe_glob (g.o.gl h.1.2) h1 h2 (okName_of h.2).1) h3
    · cases h
  | .bin op a b, X, c, Xc, e, g, h => by
    unfold chkE at h
    split at h
    · simp only [Bool.and_eq_true, decide_eq_true_eq] at h
      obtain ⟨⟨rfl, h1⟩, h2⟩ := h
      exact s_bin (sE a _ g h1) (sE b _ g h2) (den_mono g.w.n.mono a) (den_mono g.w.n.mono b)
    · cases h
  | .neg a, X, c, Xc, e, g, h => by
    unfold chkE at h
    split at h
    · exact s_neg (sE a _ g h) (den_mono g.w.n.mono a)
    · cases h
  | .cmp a ops es, X, c, Xc, e, g, h => by
    unfold chkE at h
    split at h
    · simp only [Bool.and_eq_true, decide_eq_true_eq, Bool.not_eq_true'] at h
      obtain ⟨⟨⟨⟨⟨⟨hc, rfl⟩, hl⟩, hn⟩, hm⟩, h1⟩, h2⟩ := h
      exact s_cmp (g.hu hc) (sE a _ g h1) (den_mono g.w.n.mono a) (sA es _ g h2) (fun z => by rw [z] at hn; cases hn) hl hm
    · cases h
  | .ands es, X, c, Xc, e, g, h => by
    unfold chkE at h
    split at h
    · simp only [Bool.and_eq_true, Bool.not_eq_true'] at h
      exact s_ands (fun z => by rw [z] at h; cases h.1) (sA es _ g h.2)
    · cases h
  | .ors es, X, c, Xc, e, g, h => by
    unfold chkE at h
    split at h
    · simp only [Bool.and_eq_true, Bool.not_eq_true'] at h
      exact s_ors (fun z => by rw [z] at h; cases h.1) (sA es _ g h.2)
    · cases h
  | .notv a, X, c, Xc, e, g, h => by
    unfold chkE at h
    split at h
    · exact s_not (sE a _ g h) (den_mono g.w.n.mono a)
    · cases h
  | .ifx t a b, X, c, Xc, e, g, h => by
    unfold chkE at h
    split at h
    · simp only [Bool.and_eq_true] at h
      exact s_ifx (sT t _ g h.1.1) (sE a _ g h.1.2) (sE b _ g h.2) (denT_mono g.w.n.mono t) (den_mono g.w.n.mono a) (den_mono g.w.n.mono b)
    · cases h
  | .tup es, X, c, Xc, e, g, h => by
    unfold chkE at h
    split at h
    · simp only [Bool.and_eq_true, decide_eq_true_eq] at h
      exact s_tup (sA es _ g h.2) h.1
    · cases h
  | .lst es, X, c, Xc, e, g, h => by
    unfold chkE at h
    split at h
    · simp only [Bool.and_eq_true, decide_eq_true_eq] at h
      exact s_lst (sA es _ g h.2) h.1
    · cases h
  | .ix a b, X, c, Xc, e, g, h => by
    unfold chkE at h
    split at h
    · simp only [Bool.and_eq_true] at h
      exact s_ix (sE a _ g h.1.1) (sE b _ g h.1.2) (den_mono g.w.n.mono a) (den_mono g.w.n.mono b) h.2
    · cases h
  | .sl a lo hi, X, c, Xc, e, g, h => by
    unfold chkE at h
    split at h
    · simp only [Bool.and_eq_true] at h
      exact s_sl (sE a _ g h.1.1) (den_mono g.w.n.mono a) (sA lo _ g h.1.2) (sA hi _ g h.2)
    · cases h
  | .call f es dn, X, c, Xc, e, g, h => by
    unfold chkE at h
    split at h
    · simp only [Bool.and_eq_true, decide_eq_true_eq] at h
      obtain ⟨⟨⟨⟨⟨⟨⟨hc, hf⟩, hg⟩, hn⟩, hl⟩, h0⟩, hd⟩, h1⟩ := h
      exact s_call g.w g.t (g.o.calm hc).2 hf (g.o.gl hg) hn h0 hl hd (sA es _ g h1)
    · cases h
  | .blt b es, X, c, Xc, e, g, h => by
    unfold chkE at h
    split at h
    · simp only [Bool.and_eq_true, decide_eq_true_eq, Bool.not_eq_true'] at h
      obtain ⟨⟨⟨⟨⟨⟨hc, rfl⟩, hb⟩, hg⟩, hn⟩, hne⟩, h1⟩ := h
      exact s_blt (g.hu hc) g.w.n (g.o.calm hc).1 hb (g.o.gl hg) (fun z => by rw [z] at hne; cases hne) (sA es _ g h1)
    · cases h
  | .make C es dn, X, c, Xc, e, g, h => by
    unfold chkE at h
    split at h
    · simp only [Bool.and_eq_true, decide_eq_true_eq] at h
      obtain ⟨⟨⟨⟨⟨⟨⟨hc, hf⟩, hg⟩, hn⟩, hl⟩, h0⟩, hd⟩, h1⟩ := h
      exact s_make g.w g.t (g.o.calm hc).2 hf (g.o.gl hg) hn h0 hl hd (sA es _ g h1)
    · cases h
  | .meth m o es dn, X, c, Xc, e, g, h => by
    unfold chkE at h
    split at h
    · simp only [Bool.and_eq_true, decide_eq_true_eq] at h
      obtain ⟨⟨⟨⟨⟨⟨⟨hc, hf⟩, hline⟩, hx⟩, hb⟩, hl⟩, h1⟩, h2⟩ := h
      exact s_meth g.w g.t (g.o.calm hc).2 hf hl hb hline hx (sE o _ g h1) (den_mono g.w.n.mono o) (sA es _ g h2)
    · cases h
  | .bm m o es, X, c, Xc, e, g, h => by
    unfold chkE at h
    split at h
    · simp only [Bool.and_eq_true, decide_eq_true_eq] at h
      obtain ⟨⟨⟨⟨⟨⟨hc, rfl⟩, hline⟩, hx⟩, hb⟩, h1⟩, h2⟩ := h
      exact s_bm (g.hu hc) hb hline hx (sE o _ g h1) (den_mono g.w.n.mono o) (sA es _ g h2)
    · cases h
  | .isa a cs, X, c, Xc, e, g, h => by
    unfold chkE at h
    split at h
    · simp only [Bool.and_eq_true, decide_eq_true_eq, Bool.not_eq_true'] at h
      obtain ⟨⟨⟨⟨⟨⟨hc, rfl⟩, hg⟩, h1⟩, hs⟩, hn⟩, hz⟩ := h
      exact s_isa g.w.n g.o (g.o.gl hg) (sE a _ g h1) (den_mono g.w.n.mono a) hs hz (fun z => by rw [z] at hn; cases hn)
    · cases h
  | .lc e' tg it ts, X, c, Xc, e, g, h => by
    unfold chkE at h
    split at h
    · simp only [Bool.and_eq_true, decide_eq_true_eq] at h
      obtain ⟨⟨⟨⟨⟨⟨⟨⟨⟨⟨hc, hes⟩, hb⟩, hi⟩, hs⟩, hit⟩, htg⟩, hj⟩, hl⟩, hts⟩, he⟩ := h
      refine s_lc (g.o.calm hc).1 g.o.nd (tg_slots htg) (sI it _ _ g hit hi) (blkOk_by (own := ownOf c.N tg.slots) (by rw [g.o.N, g.o.sc]; exact hb)) (own_slots _ _) (denI_mono g.w.n.mono it) (denTA_mono g.w.n.mono ts) (den_mono g.w.n.mono e') ?_ ?_ ?_ hs
      · exact fun s H C cl fp => pg_of (c := c.blk _) (g.blk hes s H C cl fp).o htg
      · exact fun s H C cl fp => pts_of hl (sTs ts (c := c.blk _) _ (g.blk hes s H C cl fp) hts)
      · exact fun s H C cl fp => sE e' (c := c.blk _) _ (g.blk hes s H C cl fp) he
    · cases h
  | .dnew t, X, c, Xc, e, g, h => by
    unfold chkE at h
    split at h
    · exact s_dnew
    · cases h
  | .dlit kvs, X, c, Xc, e, g, h => by
    unfold chkE at h
    split at h
    · simp only [Bool.and_eq_true, decide_eq_true_eq, Bool.not_eq_true'] at h
      exact s_dlit h.1.1 (fun z => by rw [z] at h; cases h.1.2) h.2
    · cases h
  | .key es, X, c, Xc, e, g, h => by
    unfold chkE at h
    split at h
    · simp only [Bool.and_eq_true, decide_eq_true_eq] at h
      exact s_key (sA es _ g h.2) h.1
    · cases h
  | .dget a b, X, c, Xc, e, g, h => by
    unfold chkE at h
    split at h
    · simp only [Bool.and_eq_true] at h
      exact s_dget (g.hu h.1.1.1) (sE a _ g h.1.1.2) (sE b _ g h.1.2) (den_mono g.w.n.mono a) (den_mono g.w.n.mono b) h.2
    · cases h
  | .dgetf a b, X, c, Xc, e, g, h => by
    unfold chkE at h
    split at h
    · simp only [Bool.and_eq_true] at h
      exact s_dgetf (g.hu h.1.1.1) (sE a _ g h.1.1.2) (sE b _ g h.1.2) (den_mono g.w.n.mono a) (den_mono g.w.n.mono b) h.2
    · cases h
  | .methd m f o es, X, c, Xc, e, g, h => by
    unfold chkE at h
    split at h
    · simp only [Bool.and_eq_true, decide_eq_true_eq] at h
      obtain ⟨⟨⟨⟨⟨⟨⟨⟨⟨hc, hf⟩, hline⟩, hx⟩, hb⟩, hl⟩, h0⟩, hd⟩, h1⟩, h2⟩ := h
      exact s_methd g.w g.t (g.o.calm hc).2 hf hl h0 hd hb hline hx (sE o _ g h1) (den_mono g.w.n.mono o) (sA es _ g h2)
    · cases h
  | .callX f i, X, c, Xc, e, g, h => by
    unfold chkE at h
    split at h
    · simp only [Bool.and_eq_true, decide_eq_true_eq] at h
      obtain ⟨⟨⟨⟨⟨⟨⟨⟨⟨hf, hg⟩, hx⟩, hN⟩, hv⟩, hn⟩, hi⟩, h1⟩, h2⟩, h3⟩ := h
      exact s_callX g.w.n g.o hf (g.o.gl hg) hx hN hv hn (let ⟨a, k, q1, _, q2⟩ := g.xs i (List.contains_iff_mem.mp hi); ⟨a, k, q1, q2 f h1 h3 h2⟩)
    · cases h
  | .make0 C, X, c, Xc, e, g, h => by
    unfold chkE at h
    split at h
    · simp only [Bool.and_eq_true, decide_eq_true_eq] at h
      exact s_make0 g.w.n h.1.1.1 (g.o.gl h.1.1.2) h.1.2 h.2
    · cases h
  | .isaX i cs, X, c, Xc, e, g, h => by
    unfold chkE at h
    split at h
    · simp only [Bool.and_eq_true, decide_eq_true_eq] at h
      obtain ⟨⟨⟨⟨⟨⟨rfl, hg⟩, hN⟩, hv⟩, hn⟩, hi⟩, hz⟩ := h
      exact s_isaX g.w.n g.o (g.o.gl hg) hN hv hn (let ⟨a, k, h1, h2, _⟩ := g.xs i (List.contains_iff_mem.mp hi); ⟨a, k, h1, h2⟩) hz
    · cases h
  | .fld a f, X, c, Xc, e, g, h => by
    unfold chkE at h
    split at h
    · simp only [Bool.and_eq_true, decide_eq_true_eq] at h
      exact s_fld g.w.n h.1.1 h.1.2 (sE a _ g h.2) (den_mono g.w.n.mono a)
    · cases h
theorem sA : ∀ (p : As) {X : Cx} {c : Ck} {Xc : Nat → Env → Sto → Prop} (es : List Expr), Cg X c nm ad Γ H0 m0 hs Xc → chkA nm Γ.init p c es = true → SndL X nm ad H0 m0 (c.es, hs) Xc (denA Γ p) es
  | .nil, X, c, Xc, es, g, h => by
    unfold chkA at h
    cases es with
    | nil => exact .nil
    | cons _ _ => cases h
  | .cons p r, X, c, Xc, es, g, h => by
    unfold chkA at h
    cases es with
    | nil => cases h
    | cons e es =>
      simp only [Bool.and_eq_true] at h
      exact .cons (sE p e g h.1.2) h.1.1 (den_mono g.w.n.mono p) (sA r es g h.2)
theorem sT : ∀ (p : T) {X : Cx} {c : Ck} {Xc : Nat → Env → Sto → Prop} (e : Expr), Cg X c nm ad Γ H0 m0 hs Xc → chkT nm Γ.init p c e = true → PT X e (tB' nm ad X.K H0 m0 (c.es, hs) Xc (denT Γ p))
  | .tr p, X, c, Xc, e, g, h => by
    unfold chkT at h
    simp only [Bool.and_eq_true] at h
    exact s_tr (sE p e g h.2) (den_mono g.w.n.mono p) h.1
  | .cmp a ops es, X, c, Xc, e, g, h => by
    unfold chkT at h
    split at h
    · simp only [Bool.and_eq_true, decide_eq_true_eq, Bool.not_eq_true'] at h
      obtain ⟨⟨⟨⟨⟨⟨hc, rfl⟩, hl⟩, hn⟩, hm⟩, h1⟩, h2⟩ := h
      exact s_cmpT (g.hu hc) (sE a _ g h1) (den_mono g.w.n.mono a) (sA es _ g h2) (fun z => by rw [z] at hn; cases hn) hl hm
    · cases h
  | .ands ts, X, c, Xc, e, g, h => by
    unfold chkT at h
    split at h
    · simp only [Bool.and_eq_true, Bool.not_eq_true'] at h
      exact (s_andsT (fun z => by rw [z] at h; cases h.1) (sTs ts _ g h.2)).pt
    · cases h
  | .ors ts, X, c, Xc, e, g, h => by
    unfold chkT at h
    split at h
    · simp only [Bool.and_eq_true, Bool.not_eq_true'] at h
      exact (s_orsT (fun z => by rw [z] at h; cases h.1) (sTs ts _ g h.2)).pt
    · cases h
  | .nott t, X, c, Xc, e, g, h => by
    unfold chkT at h
    split at h
    · exact s_nott (sT t _ g h) (denT_mono g.w.n.mono t)
    · cases h
theorem sTs : ∀ (p : Ts) {X : Cx} {c : Ck} {Xc : Nat → Env → Sto → Prop} (es : List Expr), Cg X c nm ad Γ H0 m0 hs Xc → chkTs nm Γ.init p c es = true → SndT X nm ad H0 m0 (c.es, hs) Xc (denTA Γ p) es
  | .nil, X, c, Xc, es, g, h => by
    unfold chkTs at h
    cases es with
    | nil => exact .nil
    | cons _ _ => cases h
  | .cons p r, X, c, Xc, es, g, h => by
    unfold chkTs at h
    cases es with
    | nil => cases h
    | cons e es =>
      simp only [Bool.and_eq_true] at h
      exact .cons (sT p e g h.1) (denT_mono g.w.n.mono p) (sTs r es g h.2)
theorem sI : ∀ (p : It) {X : Cx} {c : Ck} {Xc : Nat → Env → Sto → Prop} (e tg : Expr), Cg X c nm ad Γ H0 m0 hs Xc → itTg p tg = true → chkI nm Γ.init p c e = true → PI X tg e (tI nm ad H0 m0 (c.es, hs) Xc X.K (denI Γ p))
  | .over p, X, c, Xc, e, tg, g, ht, h => by
    unfold chkI at h
    simp only [Bool.and_eq_true] at h
    exact s_over (sE p e g h.2) (den_mono g.w.n.mono p)
  | .rng1 p, X, c, Xc, e, tg, g, ht, h => by
    unfold chkI at h
    split at h
    · simp only [Bool.and_eq_true, decide_eq_true_eq] at h
      obtain ⟨⟨⟨⟨rfl, h1⟩, h2⟩, h3⟩, h4⟩ := h
      exact s_rng1 g.w.n (g.o.gl h1) (sE p _ g h3) (den_mono g.w.n.mono p) h2
    · cases h
  | .rng2 p q, X, c, Xc, e, tg, g, ht, h => by
    unfold chkI at h
    split at h
    · simp only [Bool.and_eq_true, decide_eq_true_eq] at h
      obtain ⟨⟨⟨⟨⟨⟨rfl, h1⟩, h2⟩, h2'⟩, h3⟩, h3'⟩, h4⟩ := h
      exact s_rng2 g.w.n (g.o.gl h1) (sE p _ g h3) (den_mono g.w.n.mono p) h2 (sE q _ g h3') (den_mono g.w.n.mono q) h2'
    · cases h
  | .keys p, X, c, Xc, e, tg, g, ht, h => by
    unfold chkI at h
    exact s_keys (sE p e g h) (den_mono g.w.n.mono p)
  | .items p, X, c, Xc, e, tg, g, ht, h => by
    unfold chkI at h
    split at h
    · simp only [Bool.and_eq_true, decide_eq_true_eq] at h
      obtain ⟨⟨⟨rfl, h1⟩, h2⟩, h3⟩ := h
      cases tg with
      | Tuple elts kk tp => exact s_items (sE p _ g h3) (den_mono g.w.n.mono p) h2 h1
      | _ => cases ht
    · cases h
  | .enum p, X, c, Xc, e, tg, g, ht, h => by
    unfold chkI at h
    split at h
    · simp only [Bool.and_eq_true, decide_eq_true_eq] at h
      obtain ⟨⟨⟨⟨rfl, h1⟩, h2⟩, h3⟩, h4⟩ := h
      cases tg with
      | Tuple elts kk tp => exact s_enum g.w.n (g.o.gl h1) (sE p _ g h3) (den_mono g.w.n.mono p) h2
      | _ => cases ht
    · cases h
end
end
end Wp

/-! the calculus against the hand layer: statements -/
namespace Wp
open PySem PySem.Spec PyProof.Rows L2

/-! ### the check of statements -/
def isComp : Expr → Bool
  | .ListComp .. => true
  | _ => false
/-- x = e: no stores are exchanged, or they are, by a comprehension -/
def setB (c : Ck) (x : Str) (px pos : Pos) : Expr → Bool
  | .ListComp _ _ scope cp => decide (c.sc.names.lookup x = some .cell) || (decide (c.sc.names.lookup x = some .local) && (px.line == cp.line) && !(scope.names.any fun (n, k) => n == x && (k == .local || k == .cell)))
  | .SetComp .. => false
  | .DictComp .. => false
  | _ => true
def notTup : Expr → Bool
  | .Tuple .. => false
  | .List .. => false
  | _ => true
section
variable (nm : Nm) (init : Nat → Nat)
mutual
def chkS : Sm → Ck → Stmt → Bool
  | .set i e, c, st => match st with
    | .Assign [.Name x px] v pos => chkName c i (.Name x px) && setB c x px pos v && chkE nm init e c v
    | _ => false
  | .setg tg e, c, st => match st with
    | .Assign [.Tuple ts k tp] v _ => notTup v && chkTg c tg (.Tuple ts k tp) && chkE nm init e c v
    | _ => false
  | .par i j a b, c, st => match st with
    | .Assign [.Tuple [.Name x px, .Name y py] _ _] (.Tuple [u, v] _ _) _ => c.calm && decide (c.N[i]? = some x) && decide (c.N[j]? = some y) && decide (i ≠ j) && !(c.es.contains i) && !(c.es.contains j) && !(x == y) && decide (c.sc.names.lookup x = some .local) && decide (c.sc.names.lookup y = some .local) && (py.line == px.line) &&
        !([u, v].all (foldedForSure 8)) && !([u, v].all (constantsAlone 8)) && notStar u && notStar v && chkE nm init a c u && chkE nm init b c v
    | _ => false
  | .aug i op e, c, st => match st with
    | .AugAssign (.Name x px) o v _ => chkName c i (.Name x px) && !(c.es.contains i) && decide (o = opOf op) && decide (op = .add ∨ op = .sub) && chkE nm init e c v
    | _ => false
  | .fset o f e, c, st => match st with
    | .Assign [.Attribute x a _] v _ => decide (nm.flds[f]? = some a) && chkE nm init o c x && chkE nm init e c v
    | _ => false
  | .faug o f op e, c, st => match st with
    | .AugAssign (.Attribute x a _) oo v _ => decide (nm.flds[f]? = some a) && decide (oo = opOf op) && decide (op = .add ∨ op = .sub) && chkE nm init o c x && chkE nm init e c v
    | _ => false
  | .iset o i e, c, st => match st with
    | .Assign [.Subscript x y _] v _ => notSlice y && chkE nm init o c x && chkE nm init i c y && chkE nm init e c v
    | _ => false
  | .dset o i e, c, st => match st with
    | .Assign [.Subscript x y _] v _ => c.calm && notSlice y && chkE nm init o c x && chkE nm init i c y && chkE nm init e c v
    | _ => false
  | .daug o i op e, c, st => match st with
    | .AugAssign (.Subscript x y _) oo v _ => c.calm && notSlice y && decide (oo = opOf op) && decide (op = .add ∨ op = .sub) && chkE nm init o c x && chkE nm init i c y && chkE nm init e c v
    | _ => false
  | .expr e, c, st => match st with
    | .Expr v _ => notComp v && chkE nm init e c v
    | _ => false
  | .ret e, c, st => match st with
    | .Return (some v) _ => chkE nm init e c v
    | _ => false
  | .retN, _, st => match st with
    | .Return none _ => true
    | _ => false
  | .ife t a b, c, st => match st with
    | .If tt xs ys _ => chkT nm init t c tt && chkB a c xs && chkB b c ys
    | _ => false
  | .whil t b, c, st => match st with
    | .While tt xs [] _ => chkT nm init t c tt && chkB b c xs
    | _ => false
  | .for_ tg it b, c, st => match st with
    | .For t i xs [] _ => c.calm && chkI nm init it c i && notSet i && itTg it t && chkTg c tg t && chkB b c xs
    | _ => false
  | .brk, _, st => match st with
    | .Break _ => true
    | _ => false
  | .cont, _, st => match st with
    | .Continue _ => true
    | _ => false
  | .pass, _, st => match st with
    | .Pass _ => true
    | _ => false
  | .raise k, c, st => match st with
    | .Raise (some (.Call (.Name x _) [.Constant (.str _) _ _] [] _)) none _ => c.calm && decide (nm.exn[k]? = some x) && glB c.sc x && okName x
    | _ => false
  | .tryx b C (some i) h, c, st => match st with
    | .Try body [.ExceptHandler (some (.Name x _)) (some n) (b₀ :: suite) _] [] [] _ => c.calm && c.es.isEmpty && decide (nm.exn[C]? = some x) && glB c.sc x && okName x && decide (c.N[i]? = some n) && decide (c.sc.names.lookup n = some .local) && chkB b c body && chkB h { c with calm := false, es := [i] } (b₀ :: suite)
    | _ => false
  | .lock s, c, st => chkS s c st
  | .tryx b C none h, c, st => match st with
    | .Try body [.ExceptHandler (some (.Name x _)) none (b₀ :: suite) _] [] [] _ => c.calm && c.es.isEmpty && decide (nm.exn[C]? = some x) && glB c.sc x && okName x && chkB b c body && chkB h { c with calm := false } (b₀ :: suite)
    | _ => false
def chkB : Bl → Ck → List Stmt → Bool
  | .nil, _, ss => ss.isEmpty
  | .cons s r, c, ss => match ss with
    | st :: ss => chkS s c st && chkB r c ss
    | [] => false
end
end

/-! ### what the world says of exceptions -/
structure Wx (K : PySem.W.Frag) (mg : Str → Option Value) (nm : Nm) (ad : Ad) : Prop where
  exn : ∀ (k : Nat) x, nm.exn[k]? = some x → mg x = some (.ref (ad.ex k)) ∧ PySem.W.excIn K (ad.ex k) [.type "ValueError", .type "Exception", .type "BaseException", .type "object"] "ValueError.__new__" = true ∧ PySem.W.keepIn K (.ref (ad.ex k)) = true ∧
    PySem.W.subIn K (.ref (ad.ex k)) (.type "BaseException") = some true ∧ PySem.W.typeIn K (.ref (ad.ex k)) = some (.type "type")

section
variable (nm : Nm) (ad : Ad) (K : PySem.W.Frag) (H0 : Hp) (m0 : List Addr) (es : Es) (Xc : Nat → Env → Sto → Prop)
def ZOf (D : Ends) (H : Hp) (m : List Addr) : Z where
  nx := fun ρ' S' => ∀ σ' H' m', Ext H m H' m' → SimA nm ad K H0 m0 es σ' H' ρ' S' m' → D.nx σ' H'
  rt := fun d S' => ∀ v H' m', Ext H m H' m' → Sim nm ad K H' m' S' → Rep K H' m' v d → D.rt v H'
  bk := fun ρ' S' => ∀ σ' H' m', Ext H m H' m' → SimA nm ad K H0 m0 es σ' H' ρ' S' m' → D.bk σ' H'
  ct := fun ρ' S' => ∀ σ' H' m', Ext H m H' m' → SimA nm ad K H0 m0 es σ' H' ρ' S' m' → D.ct σ' H'
  ex := Xc
def tS (d : DenS) : TS := fun D σ H => ∃ ρ S m, SimA nm ad K H0 m0 es σ H ρ S m ∧ d ρ S (ZOf nm ad K H0 m0 es Xc D H m)
end
theorem ZOf.ext {nm : Nm} {ad : Ad} {K : PySem.W.Frag} {H0 : Hp} {m0 : List Addr} {es : Es} {Xc : Nat → Env → Sto → Prop} {D : Ends} {H H' : Hp} {m m' : List Addr} (e : Ext H m H' m') : Z.Le (ZOf nm ad K H0 m0 es Xc D H m) (ZOf nm ad K H0 m0 es Xc D H' m') :=
  ⟨fun _ _ q σ H2 m2 e2 s => q σ H2 m2 (e.trans e2) s, fun _ _ q v H2 m2 e2 s r => q v H2 m2 (e.trans e2) s r, fun _ _ q σ H2 m2 e2 s => q σ H2 m2 (e.trans e2) s, fun _ _ q σ H2 m2 e2 s => q σ H2 m2 (e.trans e2) s, fun _ _ _ q => q⟩
theorem ZOf.loop {nm : Nm} {ad : Ad} {K : PySem.W.Frag} {H0 : Hp} {m0 : List Addr} {es : Es} {Xc : Nat → Env → Sto → Prop} {D : Ends} {H H' : Hp} {m m' : List Addr} (e : Ext H m H' m') {n c : Env → Sto → Prop} {n' : L2.St → Hp → Prop}
    (hn : ∀ ρ' S' σ' H2 m2, Ext H' m' H2 m2 → SimA nm ad K H0 m0 es σ' H2 ρ' S' m2 → n ρ' S' → n' σ' H2) (hc : ∀ ρ' S' σ' H2 m2, Ext H' m' H2 m2 → SimA nm ad K H0 m0 es σ' H2 ρ' S' m2 → c ρ' S' → n' σ' H2) :
    Z.Le { ZOf nm ad K H0 m0 es Xc D H m with nx := n, ct := c, bk := (ZOf nm ad K H0 m0 es Xc D H m).nx } (ZOf nm ad K H0 m0 es Xc { D with nx := n', ct := n', bk := D.nx } H' m') :=
  ⟨fun ρ S q σ H2 m2 e2 s => hn _ _ _ _ _ e2 s q, fun _ _ q v H2 m2 e2 s r => q v H2 m2 (e.trans e2) s r, fun _ _ q σ H2 m2 e2 s => q σ H2 m2 (e.trans e2) s, fun ρ S q σ H2 m2 e2 s => hc _ _ _ _ _ e2 s q, fun _ _ _ q => q⟩
theorem ZOf.seq {nm : Nm} {ad : Ad} {K : PySem.W.Frag} {H0 : Hp} {m0 : List Addr} {es : Es} {Xc : Nat → Env → Sto → Prop} {D : Ends} {H : Hp} {m : List Addr} {n : Env → Sto → Prop} {n' : L2.St → Hp → Prop}
    (hn : ∀ ρ' S' σ' H2 m2, Ext H m H2 m2 → SimA nm ad K H0 m0 es σ' H2 ρ' S' m2 → n ρ' S' → n' σ' H2) :
    Z.Le { ZOf nm ad K H0 m0 es Xc D H m with nx := n } (ZOf nm ad K H0 m0 es Xc { D with nx := n' } H m) :=
  ⟨fun ρ S q σ H2 m2 e2 s => hn _ _ _ _ _ e2 s q, fun _ _ q => q, fun _ _ q => q, fun _ _ q => q, fun _ _ _ q => q⟩
theorem swapA {e : Expr} {o : Expr} {f : Str} {p : Pos} {l : Nat} {env : PySem.Env} : swapsWith e (some (.Attribute o f p)) l env = pure false := by
  cases e <;> rfl
theorem swapS {e : Expr} {o i : Expr} {p : Pos} {l : Nat} {env : PySem.Env} : swapsWithSole [.Subscript o i p] e l env = pure false := by
  cases e <;> rfl
theorem swapT {e : Expr} {ts : List Expr} {k : Nat} {p : Pos} {l : Nat} {env : PySem.Env} : swapsWithSole [.Tuple ts k p] e l env = pure false := by
  cases e <;> rfl
theorem swapN {x : Str} {c : Ck} {px pos : Pos} {e : Expr} {env : PySem.Env} (hs : env.scope = c.sc) (h : setB c x px pos e = true) (hn : env.scope.names.lookup x ≠ some .local ∨ isComp e = false) : swapsWith e (some (.Name x px)) pos.line env = pure false := by
  cases e with
  | ListComp el gs scope cp =>
    rcases hn with hn | hn
    · unfold swapsWith
      have : (env.kindOf x == some NameKind.local) = false := by
        unfold Env.kindOf
        exact beq_eq_false_iff_ne.mpr hn
      simp [this]
    · cases hn
  | SetComp _ _ _ _ => cases h
  | DictComp _ _ _ _ _ => cases h
  | _ => rfl
theorem noSwap {ts : List Expr} {k : Nat} {p : Pos} {v : Expr} {env : PySem.Env} (h : notTup v = true) : swappedStores [.Tuple ts k p] v env = pure none := by
  cases v <;> first | rfl | cases h
theorem parSwap {x y : Str} {px py pt : Pos} {k k2 : Nat} {u v : Expr} {pt2 : Pos} {env : PySem.Env} (hk : env.scope.kind = .function) (hxy : (x == y) = false) (hx : env.scope.names.lookup x = some .local) (hy : env.scope.names.lookup y = some .local) (hl : (py.line == px.line) = true)
    (hf : ([u, v].all (foldedForSure 8)) = false) (hc : ([u, v].all (constantsAlone 8)) = false) (hu : notStar u = true) (hv : notStar v = true) :
    swappedStores [.Tuple [.Name x px, .Name y py] k pt] (.Tuple [u, v] k2 pt2) env = pure (some [x, y]) := by
  have hb : env.blockKind = .function := by unfold Env.blockKind; rw [hk]; rfl
  have kx : env.kindOf x = some .local := hx
  have ky : env.kindOf y = some .local := hy
  have hyx : (y == x) = false := by rw [beq_eq_false_iff_ne] at hxy ⊢; exact Ne.symm hxy
  unfold swappedStores
  simp only [List.length_cons, List.length_nil, hb, List.any_cons, List.any_nil, List.head?_cons, Option.map_some, Option.getD_some, Expr.pos, List.filterMap_cons, List.filterMap_nil, kx, ky, hl, hf, hc, beq_self_eq_true, Bool.and_self, Bool.true_and, if_true]
  simp [List.eraseDups_cons, hyx, hxy]
  rintro (h | h)
  · cases u <;> first | (cases h; done) | (cases hu; done)
  · cases v <;> first | (cases h; done) | (cases hv; done)
end Wp

/-! the calculus against the hand layer: all statements -/
namespace Wp
open PySem PySem.Spec PyProof.Rows L2

structure Cs (X : Cx) (c : Ck) (nm : Nm) (ad : Ad) (Γ : Tab) (H0 : Hp) (m0 : List Addr) (hs : List (Nat × Addr × Nat)) (Xc : Nat → Env → Sto → Prop) : Prop where
  g : Cg X c nm ad Γ H0 m0 hs Xc
  x : Wx X.K X.mg nm ad
  po : PassesOwn (model X.prog X.w) X.A X.env X.xe
  hk : X.env.scope.kind = .function
  stk : X.stack = X.env :: X.outer
  fr : X.env.frame = some X.env.locals
section
variable {X : Cx} {c : Ck} {nm : Nm} {ad : Ad} {Γ : Tab} {H0 : Hp} {m0 : List Addr} {es : Es} {Xc : Nat → Env → Sto → Prop}
theorem t_set (hes : ∀ i ∈ es.1, i ∈ c.es) {i : Nat} {x : Str} {v : Expr} {px pos : Pos} {d : Den} (hc : CtxOk X c) (hn : chkName c i (.Name x px) = true) (hs : setB c x px pos v = true) (hns : X.env.scope.names.lookup x ≠ some .local ∨ isComp v = false)
    (he : PE X v (tE nm ad X.K H0 m0 es Xc d)) (m : MonD d) : PS X (.Assign [.Name x px] v pos) (tS nm ad X.K H0 m0 es Xc fun ρ S z => d ρ S (fun d S1 => z.nx (ρ.set i (some d)) S1) (fun c S1 => z.ex c ρ S1)) := by
  unfold chkName at hn
  simp only [Bool.and_eq_true, decide_eq_true_eq] at hn
  obtain ⟨⟨⟨h1, h3⟩, h4⟩, h5⟩ := hn
  have hi : i ∉ es.1 := fun z => by rw [List.contains_iff_mem.mpr (hes _ z)] at h5; cases h5
  obtain ⟨l1, l2⟩ := hc.loc h3
  exact (ps_set hc.nd (by rw [hc.N]; exact h1) l1 he (swapN hc.sc hs hns) l2).wimp fun D σ H ⟨ρ, S, m0', s, q⟩ => tE_of m s q fun v S1 y H1 m1 e1 s1 r1 q1 => q1 _ _ _ e1 (s1.set r1 hi)
theorem t_setg (hes : ∀ i ∈ es.1, i ∈ c.es) {tg : Tg} {ts : List Expr} {k : Nat} {tp pos : Pos} {v : Expr} {d : Den} (hc : CtxOk X c) (hn : notTup v = true) (ht : chkTg c tg (.Tuple ts k tp) = true) (he : PE X v (tE nm ad X.K H0 m0 es Xc d)) (m : MonD d) :
    PS X (.Assign [.Tuple ts k tp] v pos) (tS nm ad X.K H0 m0 es Xc fun ρ S z => d ρ S (fun d S1 => tgD tg d ρ fun ρ' => z.nx ρ' S1) (fun c S1 => z.ex c ρ S1)) :=
  (ps_asg he (pg_of hc ht) swapT (noSwap hn) rfl).wimp fun D σ H ⟨ρ, S, m0', s, q⟩ => tE_of m s q fun v S1 y H1 m1 e1 s1 r1 q1 => tg_r (fun j hj z => tg_slots ht j hj (hes _ z)) s1 r1 q1 fun σ' ρ' ag s' q' => q' _ _ _ e1 s'
theorem t_par (hcalm : X.calm = true) {es : Es} (hc : CtxOk X c) (hk : X.env.scope.kind = .function) {i j : Nat} (hie : i ∉ es.1) (hje : j ∉ es.1) {x y : Str} {px py tp pos p2 : Pos} {k k2 : Nat} {u v : Expr} {du dv : Den} (hi : c.N[i]? = some x) (hj : c.N[j]? = some y) (hij : i ≠ j) (hxy : (x == y) = false)
    (hx : c.sc.names.lookup x = some .local) (hy : c.sc.names.lookup y = some .local) (hl : (py.line == px.line) = true) (hf : ([u, v].all (foldedForSure 8)) = false) (hcn : ([u, v].all (constantsAlone 8)) = false) (hu : notStar u = true) (hv : notStar v = true)
    (eu : PE X u (tE nm ad X.K H0 m0 es Xc du)) (mu : MonD du) (ev : PE X v (tE nm ad X.K H0 m0 es Xc dv)) (mv : MonD dv) :
    PS X (.Assign [.Tuple [.Name x px, .Name y py] k tp] (.Tuple [u, v] k2 p2) pos) (tS nm ad X.K H0 m0 es Xc fun ρ S z => du ρ S (fun x S1 => dv ρ S1 (fun y S2 => z.nx ((ρ.set i (some x)).set j (some y)) S2) (fun c S1 => z.ex c ρ S1)) (fun c S1 => z.ex c ρ S1)) :=
  (ps_par hcalm hc.nd (by rw [hc.N]; exact hi) (by rw [hc.N]; exact hj) hij (by rw [hc.sc]; exact hx) (by rw [hc.sc]; exact hy) (pa_cons eu (pa_cons ev pa_nil (star_of hv)) (star_of hu))
    (parSwap hk hxy (by rw [hc.sc]; exact hx) (by rw [hc.sc]; exact hy) hl hf hcn hu hv) swapT).wimp fun D σ H ⟨ρ, S, m, s, q⟩ =>
      tE_of mu s q fun a S1 z H1 m1 e1 s1 r1 q1 => tE_of mv s1 q1 fun b S2 w H2 m2 e2 s2 r2 q2 => ⟨z, w, rfl, q2 _ _ _ (e1.trans e2) ((s2.set (r1.ext e2) hie).set r2 hje)⟩
theorem t_aug {i : Nat} {op : Op} {x : Str} {v : Expr} {px pos : Pos} {d : Den} (hc : CtxOk X c) (hn : chkName c i (.Name x px) = true) (hes : i ∉ es.1) (ho : op = .add ∨ op = .sub) (he : PE X v (tE nm ad X.K H0 m0 es Xc d)) (m : MonD d) :
    PS X (.AugAssign (.Name x px) (opOf op) v pos) (tS nm ad X.K H0 m0 es Xc fun ρ S z => ∃ x, ρ[i]? = some (some (.int x)) ∧ d ρ S (fun y S1 => ∃ j, y = .int j ∧ (op = .add ∨ op = .sub) ∧ intOp op x j fun k => z.nx (ρ.set i (some (.int k))) S1) (fun c S1 => z.ex c ρ S1)) := by
  unfold chkName at hn
  simp only [Bool.and_eq_true, decide_eq_true_eq] at hn
  obtain ⟨⟨⟨h1, h3⟩, h4⟩, _⟩ := hn
  obtain ⟨l1, l2⟩ := hc.loc h3
  have key : ∀ f : Int → Int → Int, (∀ x j k, intOp op x j k → k (f x j)) → PIp X (opOf op) (ipI f) → PS X (.AugAssign (.Name x px) (opOf op) v pos) (tS nm ad X.K H0 m0 es Xc fun ρ S z => ∃ x, ρ[i]? = some (some (.int x)) ∧ d ρ S (fun y S1 => ∃ j, y = .int j ∧ (op = .add ∨ op = .sub) ∧ intOp op x j fun k => z.nx (ρ.set i (some (.int k))) S1) (fun c S1 => z.ex c ρ S1)) := fun f hf hp =>
    (ps_aug hc.nd (by rw [hc.N]; exact h1) l1 he hp l2).wimp fun D σ H ⟨ρ, S, m0', s, x, hx, q⟩ => by
      obtain ⟨w, hw, hr⟩ := s.at_ i _ hx hes
      cases hr.int_inv
      refine ⟨_, hw, tE_of m s q fun v S1 y H1 m1 e1 s1 r1 ⟨j, ej, _, q1⟩ => ?_⟩
      subst ej
      cases r1.int_inv
      exact ⟨_, _, rfl, rfl, (hf _ _ _ q1) _ _ _ e1 (s1.set (.int _) hes)⟩
  rcases ho with rfl | rfl
  · exact key _ (fun x j k q => q) ip_add
  · exact key _ (fun x j k q => q) ip_sub
theorem t_fset (hw : Wn X.K X.mg nm ad Γ) {f : Nat} {a : Str} {o v : Expr} {p pos : Pos} {do_ d : Den} (hf : nm.flds[f]? = some a) (ho : PE X o (tE nm ad X.K H0 m0 es Xc do_)) (mo : MonD do_) (he : PE X v (tE nm ad X.K H0 m0 es Xc d)) (m : MonD d) :
    PS X (.Assign [.Attribute o a p] v pos) (tS nm ad X.K H0 m0 es Xc fun ρ S z => d ρ S (fun v S1 => do_ ρ S1 (fun x S2 => ∃ n C fs, x = .loc n ∧ S2[n]? = some (.ins C fs) ∧ Γ.attr C f = true ∧ fs.length < 1000 ∧ z.nx ρ (S2.set n (.ins C (putN f v fs)))) (fun c S1 => z.ex c ρ S1)) (fun c S1 => z.ex c ρ S1)) :=
  (ps_fld ho he swapA).wimp fun D σ H ⟨ρ, S, m0', s, q⟩ => tE_of m s q fun v S1 y H1 m1 e1 s1 r1 q1 => tE_of mo s1 q1 fun w S2 z H2 m2 e2 s2 r2 ⟨n, C, fs, en, hn, hat, hl, q2⟩ => by
    subst en
    rw [← hw.hat] at hat
    obtain ⟨b, rfl, hb⟩ := r2.loc_inv
    obtain ⟨dx, fvs, hH, hfs⟩ : RepO nm ad X.K H2 m2 b (.ins C fs) := s2.sim.obj n _ b hn hb
    obtain ⟨na, hC⟩ := hw.attr C f a hat hf
    have em := ext_mut (m := m2) (o := .ins (ad.cls C) dx (putF a y fvs)) (mu_of hH trivial)
    refine ⟨b, _, dx, fvs, rfl, hH, hC, na, by rw [hfs.length]; exact hl, q2 _ _ _ ((e1.trans e2).trans em) (s2.step em (s2.sim.upd (mu_of hH trivial) hb ⟨dx, _, upd_same, ?_⟩))⟩
    exact ((hfs.put hw.fnd hf hat (r1.ext e2))).ext em
theorem t_faug (hw : Wn X.K X.mg nm ad Γ) {f : Nat} {op : Op} {a : Str} {o v : Expr} {p pos : Pos} {do_ d : Den} (hop : op = .add ∨ op = .sub) (hf : nm.flds[f]? = some a) (ho : PE X o (tE nm ad X.K H0 m0 es Xc do_)) (mo : MonD do_) (he : PE X v (tE nm ad X.K H0 m0 es Xc d)) (m : MonD d) :
    PS X (.AugAssign (.Attribute o a p) (opOf op) v pos) (tS nm ad X.K H0 m0 es Xc fun ρ S z => do_ ρ S (fun x S1 => ∃ n C fs i, x = .loc n ∧ S1[n]? = some (.ins C fs) ∧ fs.lookup f = some (.int i) ∧ d ρ S1 (fun y S2 => ∃ j, y = .int j ∧ (op = .add ∨ op = .sub) ∧ intOp op i j fun k =>
      ∃ fs', S2[n]? = some (.ins C fs') ∧ fs'.length < 1000 ∧ z.nx ρ (S2.set n (.ins C (putN f (.int k) fs')))) (fun c S1 => z.ex c ρ S1)) (fun c S1 => z.ex c ρ S1)) := by
  have key : ∀ (g : Int → Int → Int) (rd : V → V → Hp → VK → Prop), (∀ x j k, intOp op x j k → k (g x j)) → (∀ i j H Q, Q (.int (g i j)) H → rd (.int i) (.int j) H Q) → InOp X (opOf op) rd → PS X (.AugAssign (.Attribute o a p) (opOf op) v pos) (tS nm ad X.K H0 m0 es Xc fun ρ S z => do_ ρ S (fun x S1 => ∃ n C fs i, x = .loc n ∧ S1[n]? = some (.ins C fs) ∧ fs.lookup f = some (.int i) ∧ d ρ S1 (fun y S2 => ∃ j, y = .int j ∧ (op = .add ∨ op = .sub) ∧ intOp op i j fun k =>
      ∃ fs', S2[n]? = some (.ins C fs') ∧ fs'.length < 1000 ∧ z.nx ρ (S2.set n (.ins C (putN f (.int k) fs')))) (fun c S1 => z.ex c ρ S1)) (fun c S1 => z.ex c ρ S1)) := fun g rd hg hrd hin =>
    (ps_fldaug ho he hin).wimp fun D σ H ⟨ρ, S, m0', s, q⟩ => tE_of mo s q fun w S1 z H1 m1 e1 s1 r1 ⟨n, C, fs, i, en, hn, hlk, q1⟩ => by
      subst en
      obtain ⟨b, rfl, hb⟩ := r1.loc_inv
      obtain ⟨dx, fvs, hH, hfs⟩ : RepO nm ad X.K H1 m1 b (.ins C fs) := s1.sim.obj n _ b hn hb
      have lk := hfs.look hw.fnd hf
      rw [hlk] at lk
      obtain ⟨vv, l1, l2, hat⟩ := lk
      cases l2.int_inv
      obtain ⟨na, hC⟩ := hw.attr C f a hat hf
      refine ⟨b, _, dx, fvs, _, rfl, hH, hC, na, l1, tE_of m s1 q1 fun v S2 y H2 m2 e2 s2 r2 ⟨j, ej, _, q2⟩ => ?_⟩
      subst ej
      cases r2.int_inv
      obtain ⟨fs', hn', hl', q3⟩ := hg _ _ _ q2
      have hb2 := e2.pre _ _ hb
      obtain ⟨dx', fvs', hH', hfs'⟩ : RepO nm ad X.K H2 m2 b (.ins C fs') := s2.sim.obj n _ b hn' hb2
      refine hrd _ _ _ _ ⟨dx', fvs', hH', by rw [hfs'.length]; exact hl', ?_⟩
      have em := ext_mut (m := m2) (o := .ins (ad.cls C) dx' (putF a (.int (g i j)) fvs')) (mu_of hH' trivial)
      exact q3 _ _ _ ((e1.trans e2).trans em) (s2.step em (s2.sim.upd (mu_of hH' trivial) hb2 ⟨dx', _, upd_same, (hfs'.put hw.fnd hf hat (.int _)).ext em⟩))
  rcases hop with rfl | rfl
  · exact key _ _ (fun x j k q => q) (fun i j H Q q => ⟨i, j, rfl, rfl, q⟩) in_add
  · exact key _ _ (fun x j k q => q) (fun i j H Q q => ⟨i, j, rfl, rfl, q⟩) in_sub
theorem sub_assign {o i : Expr} {pos : Pos} {env : PySem.Env} (h : notSlice i = true) : ∀ v, assign (.Subscript o i pos) env v = (do
      let ov ← holding [v] (eval o env)
      let iv ← holding [v, ov] (eval i env)
      standAt pos
      holding [v, ov, iv] (setItem ov iv v)
      release [v, ov, iv] []) := fun v => by
  cases i <;> first | rfl | cases h
theorem t_iset {o i v : Expr} {p pos : Pos} {do_ di d : Den} (hs : notSlice i = true) (ho : PE X o (tE nm ad X.K H0 m0 es Xc do_)) (mo : MonD do_) (hi : PE X i (tE nm ad X.K H0 m0 es Xc di)) (mi : MonD di) (he : PE X v (tE nm ad X.K H0 m0 es Xc d)) (m : MonD d) :
    PS X (.Assign [.Subscript o i p] v pos) (tS nm ad X.K H0 m0 es Xc fun ρ S z => d ρ S (fun v S1 => do_ ρ S1 (fun x S2 => di ρ S2 (fun y S3 => ∃ n xs k j, x = .loc n ∧ y = .int k ∧ lstAt S3 n = some xs ∧ ixN xs.length k = some j ∧ z.nx ρ (setLst S3 n (xs.set j v))) (fun c S1 => z.ex c ρ S1)) (fun c S1 => z.ex c ρ S1)) (fun c S1 => z.ex c ρ S1)) :=
  (ps_asg he (pg_sub ho hi set_list (sub_assign hs)) swapS (by cases v <;> rfl) rfl).wimp fun D σ H ⟨ρ, S, m0', s, q⟩ => tE_of m s q fun v S1 y H1 m1 e1 s1 r1 q1 => tE_of mo s1 q1 fun w S2 z H2 m2 e2 s2 r2 q2 =>
    tE_of mi s2 q2 fun u S3 t H3 m3 e3 s3 r3 ⟨n, xs, k, j, en, ek, hx, hj, q3⟩ => by
      subst en; subst ek
      obtain ⟨a, vs, rfl, ha, g1, g2⟩ := (r2.ext e3).lst_inv s3.sim hx
      cases r3.int_inv
      have em := ext_mut (m := m3) (o := .lst (vs.set j y)) (mu_of g1 trivial)
      exact ⟨a, vs, k, j, rfl, rfl, g1, by rw [g2.length]; exact hj, q3 _ _ _ (((e1.trans e2).trans e3).trans em) (s3.step em (s3.sim.upd (mu_of g1 trivial) ha ⟨_, upd_same, (Reps.set ((r1.ext e2).ext e3) _ g2).ext em⟩))⟩
def rDSet : V → V → V → Hp → (Hp → Prop) → Prop := fun o i v H Q => ∃ a H', o = .ref a ∧ DPut H a i v H' ∧ Q H'
theorem set_dict {X : Cx} (hu : X.A.units + 1 < cLine) : PSet X rDSet := by
  intro pins s σ H o i v ov iv u Q I ro ri rv ⟨a, H', ex, g, q⟩
  subst ex
  cases ro
  exact d_setItem hu I g ri rv fun s' I' => ⟨H', I', q⟩
theorem t_dset (hu : X.A.units + 130 < cLine) {o i v : Expr} {p pos : Pos} {do_ di d : Den} (hs : notSlice i = true) (ho : PE X o (tE nm ad X.K H0 m0 es Xc do_)) (mo : MonD do_) (hi : PE X i (tE nm ad X.K H0 m0 es Xc di)) (mi : MonD di) (he : PE X v (tE nm ad X.K H0 m0 es Xc d)) (m : MonD d) :
    PS X (.Assign [.Subscript o i p] v pos) (tS nm ad X.K H0 m0 es Xc fun ρ S z => d ρ S (fun v S1 => do_ ρ S1 (fun x S2 => di ρ S2 (fun y S3 => dpD x y v S3 fun S4 => z.nx ρ S4) (fun c S1 => z.ex c ρ S1)) (fun c S1 => z.ex c ρ S1)) (fun c S1 => z.ex c ρ S1)) :=
  (ps_asg he (pg_sub ho hi (set_dict (by omega)) (sub_assign hs)) swapS (by cases v <;> rfl) rfl).wimp fun D σ H ⟨ρ, S, m0', s, q⟩ => tE_of m s q fun v S1 y H1 m1 e1 s1 r1 q1 => tE_of mo s1 q1 fun w S2 z H2 m2 e2 s2 r2 q2 =>
    tE_of mi s2 q2 fun u S3 t H3 m3 e3 s3 r3 q3 => by
      obtain ⟨a, H4, ex, g, S4, q4, e4, n4⟩ := dp_r q3 s3.sim (r2.ext e3) r3 ((r1.ext e2).ext e3)
      exact ⟨a, H4, ex, g, q4 _ _ _ (((e1.trans e2).trans e3).trans e4) (s3.step e4 n4)⟩
theorem aug_store {i : Expr} (h : notSlice i = true) : ∀ ov iv new, augStore i ov iv new = (do holding [new, ov, iv] (setItem ov iv new); release [new, ov, iv] []; pure .next) := fun ov iv new => by
  cases i <;> first | rfl | cases h
theorem t_daug (hu : X.A.units + 130 < cLine) {op : Op} {o i v : Expr} {p pos : Pos} {do_ di d : Den} (hop : op = .add ∨ op = .sub) (hs : notSlice i = true) (ho : PE X o (tE nm ad X.K H0 m0 es Xc do_)) (mo : MonD do_) (hi : PE X i (tE nm ad X.K H0 m0 es Xc di)) (mi : MonD di) (he : PE X v (tE nm ad X.K H0 m0 es Xc d)) (m : MonD d) :
    PS X (.AugAssign (.Subscript o i p) (opOf op) v pos) (tS nm ad X.K H0 m0 es Xc fun ρ S z => do_ ρ S (fun x S1 => di ρ S1 (fun y S2 => dgD x y S2 fun r => ∃ a, r = some (.int a) ∧ d ρ S2 (fun w S3 => ∃ j, w = .int j ∧ (op = .add ∨ op = .sub) ∧ intOp op a j fun k => dpD x y (.int k) S3 fun S4 => z.nx ρ S4) (fun c S1 => z.ex c ρ S1)) (fun c S1 => z.ex c ρ S1)) (fun c S1 => z.ex c ρ S1)) := by
  have key : ∀ (g : Int → Int → Int) (rd : V → V → Hp → VK → Prop), (∀ x j k, intOp op x j k → k (g x j)) → (∀ i j H Q, Q (.int (g i j)) H → rd (.int i) (.int j) H Q) → InOp X (opOf op) rd → PS X (.AugAssign (.Subscript o i p) (opOf op) v pos) (tS nm ad X.K H0 m0 es Xc fun ρ S z => do_ ρ S (fun x S1 => di ρ S1 (fun y S2 => dgD x y S2 fun r => ∃ a, r = some (.int a) ∧ d ρ S2 (fun w S3 => ∃ j, w = .int j ∧ (op = .add ∨ op = .sub) ∧ intOp op a j fun k => dpD x y (.int k) S3 fun S4 => z.nx ρ S4) (fun c S1 => z.ex c ρ S1)) (fun c S1 => z.ex c ρ S1)) (fun c S1 => z.ex c ρ S1)) := fun g rd hg hrd hin =>
    (ps_daug (by omega) ho hi he hin (aug_store hs)).wimp fun D σ H ⟨ρ, S, m0', s, q⟩ => tE_of mo s q fun w S1 z H1 m1 e1 s1 r1 q1 => tE_of mi s1 q1 fun u S2 y H2 m2 e2 s2 r2 q2 => by
      obtain ⟨a, ov, hx, gg, r, ⟨b, er, q3⟩, hm⟩ := dg_r q2 s2.sim (r1.ext e2) r2
      subst er
      obtain ⟨vv, e, rv⟩ := hm
      subst e
      cases rv.int_inv
      refine ⟨a, _, hx, gg, tE_of m s2 q3 fun v S3 y3 H3 m3 e3 s3 r3 ⟨j, ej, _, q4⟩ => ?_⟩
      subst ej
      cases r3.int_inv
      have q5 := hg _ _ _ q4
      obtain ⟨a', H4, ex, g4, S4, q6, e4, n4⟩ := dp_r q5 s3.sim ((r1.ext e2).ext e3) (r2.ext e3) (.int _)
      have ea : a' = a := by rw [ex] at hx; cases hx; rfl
      subst ea
      exact hrd _ _ _ _ ⟨H4, g4, q6 _ _ _ (((e1.trans e2).trans e3).trans e4) (s3.step e4 n4)⟩
  rcases hop with rfl | rfl
  · exact key _ _ (fun x j k q => q) (fun i j H Q q => ⟨i, j, rfl, rfl, q⟩) in_add
  · exact key _ _ (fun x j k q => q) (fun i j H Q q => ⟨i, j, rfl, rfl, q⟩) in_sub
theorem t_expr {v : Expr} {pos : Pos} {d : Den} (hn : notComp v = true) (he : PE X v (tE nm ad X.K H0 m0 es Xc d)) (m : MonD d) : PS X (.Expr v pos) (tS nm ad X.K H0 m0 es Xc fun ρ S z => d ρ S (fun _ S1 => z.nx ρ S1) (fun c S1 => z.ex c ρ S1)) :=
  (ps_expr he (comp_of hn)).wimp fun D σ H ⟨ρ, S, m0', s, q⟩ => tE_of m s q fun v S1 y H1 m1 e1 s1 r1 q1 => q1 _ _ _ e1 s1
theorem t_ret {v : Expr} {pos : Pos} {d : Den} (he : PE X v (tE nm ad X.K H0 m0 es Xc d)) (m : MonD d) : PS X (.Return (some v) pos) (tS nm ad X.K H0 m0 es Xc fun ρ S z => d ρ S z.rt (fun c S1 => z.ex c ρ S1)) :=
  (ps_ret he).wimp fun D σ H ⟨ρ, S, m0', s, q⟩ => tE_of m s q fun v S1 y H1 m1 e1 s1 r1 q1 => q1 _ _ _ e1 s1.sim r1
theorem t_ife {t : Expr} {a b : List Stmt} {pos : Pos} {dt : DenT} {da db : DenS} (ht : PT X t (tB' nm ad X.K H0 m0 es Xc dt)) (mt : MonT dt) (ha : PSs X a (tS nm ad X.K H0 m0 es Xc da)) (ma : MonS da) (hb : PSs X b (tS nm ad X.K H0 m0 es Xc db)) (mb : MonS db) :
    PS X (.If t a b pos) (tS nm ad X.K H0 m0 es Xc fun ρ S z => dt ρ S (fun c S1 => Br c (da ρ S1 z) (db ρ S1 z)) (fun c S1 => z.ex c ρ S1)) :=
  (ps_if ht ha hb).wimp fun D σ H ⟨ρ, S, m, s, q⟩ => tB_of mt s q fun k S1 H1 m1 e1 s1 q1 => by
    cases k with
    | true => exact ⟨ρ, S1, m1, s1, ma _ _ _ _ (ZOf.ext e1) (q1.1 rfl)⟩
    | false => exact ⟨ρ, S1, m1, s1, mb _ _ _ _ (ZOf.ext e1) (q1.2 rfl)⟩
theorem t_whil (po : PassesOwn (model X.prog X.w) X.A X.env X.xe) {t : Expr} {b : List Stmt} {pos : Pos} {dt : DenT} {db : DenS} (ht : PT X t (tB' nm ad X.K H0 m0 es Xc dt)) (mt : MonT dt) (hb : PSs X b (tS nm ad X.K H0 m0 es Xc db)) (mb : MonS db) :
    PS X (.While t b [] pos) (tS nm ad X.K H0 m0 es Xc fun ρ S z => ∃ W : Nat → Env → Sto → Prop, (∃ m, W m ρ S) ∧ ∀ m ρ S, W m ρ S → dt ρ S (fun c S1 =>
      Br c (db ρ S1 { z with nx := fun ρ' S' => ∃ m', m' < m ∧ W m' ρ' S', ct := fun ρ' S' => ∃ m', m' < m ∧ W m' ρ' S', bk := z.nx }) (z.nx ρ S1)) (fun c S1 => z.ex c ρ S1)) :=
  (ps_while po ht hb).wimp fun D σ H ⟨ρ, S, m, s, W, ⟨k0, w0⟩, turn⟩ => by
    refine ⟨fun k σ' H' => ∃ ρ' S' m', Ext H m H' m' ∧ SimA nm ad X.K H0 m0 es σ' H' ρ' S' m' ∧ W k ρ' S', ⟨k0, ρ, S, m, .refl, s, w0⟩, ?_⟩
    rintro k σ1 H1 ⟨ρ1, S1, m1, e1, s1, w1⟩
    refine tB_of mt s1 (turn k ρ1 S1 w1) fun b S2 H2 m2 e2 s2 q2 => ?_
    cases b with
    | true =>
      refine ⟨fun σ' H' => ∃ k', k' < k ∧ ∃ ρ' S' m', Ext H m H' m' ∧ SimA nm ad X.K H0 m0 es σ' H' ρ' S' m' ∧ W k' ρ' S', fun _ _ ⟨k', l, z⟩ => ⟨k', l, z⟩, ?_⟩
      exact ⟨ρ1, S2, m2, s2, mb _ _ _ _ (ZOf.loop (D := D) (e1.trans e2) (fun ρ' S' σ' H' m' e' s' ⟨k', l, w⟩ => ⟨k', l, ρ', S', m', (e1.trans e2).trans e', s', w⟩) (fun ρ' S' σ' H' m' e' s' ⟨k', l, w⟩ => ⟨k', l, ρ', S', m', (e1.trans e2).trans e', s', w⟩)) (q2.1 rfl)⟩
    | false => exact (q2.2 rfl) _ _ _ (e1.trans e2) s2
theorem t_for (hc : X.calm = true) (po : PassesOwn (model X.prog X.w) X.A X.env X.xe) {tg : Tg} (hsl : ∀ j ∈ tg.slots, j ∉ es.1) {t i : Expr} {body : List Stmt} {pos : Pos} {dI : Env → Sto → (List D → (Sto → Prop) → Sto → Prop) → XD → Prop} {db : DenS} (hi : PI X t i (tI nm ad H0 m0 es Xc X.K dI)) (hs : notSet i = true)
    (hg : PG X t (gTg X.K tg)) (hb : PSs X body (tS nm ad X.K H0 m0 es Xc db)) (mi : MonI dI) (mb : MonS db) :
    PS X (.For t i body [] pos) (tS nm ad X.K H0 m0 es Xc fun ρ S z => dI ρ S (fun xs stay S1 => forD stay (fun x ρ S z => tgD tg x ρ fun ρ' => db ρ' S z) xs ρ S1 z) (fun c S1 => z.ex c ρ S1)) := by
  refine (ps_for po hc hi hg hb (set_of hs)).wimp fun D σ H ⟨ρ, S, m, s, q⟩ => ⟨ρ, S, m, s, mi _ _ _ _ _ _ (fun xs stay S1 q1 J H1 m1 e1 n1 it => ?_) (fun _ _ w => w) q⟩
  refine ⟨fun k mm σ H' => mm = xs.length - k ∧ k ≤ xs.length ∧ ∃ ρ S2 m2, Ext H1 m1 H' m2 ∧ SimA nm ad X.K H0 m0 es σ H' ρ S2 m2 ∧ forD stay (fun x ρ S z => tgD tg x ρ fun ρ' => db ρ' S z) (xs.drop k) ρ S2 (ZOf nm ad X.K H0 m0 es Xc D H m),
    ⟨xs.length, by simp, Nat.zero_le _, ρ, S1, m1, .refl, s.step e1 n1, by simpa using q1⟩, ?_⟩
  rintro k mm σ2 H2 ⟨rfl, hle, ρ2, S2, m2, e2, s2, w⟩
  by_cases hlt : k < xs.length
  · rw [List.drop_eq_getElem_cons hlt] at w
    obtain ⟨st, w⟩ := w
    obtain ⟨g, yl⟩ := it.go k _ H2 m2 S2 (List.getElem?_eq_getElem hlt) e2 s2.sim st
    refine .inr ⟨g, fun σ' H' => ∃ ρ' S3 m3, Ext H1 m1 H' m3 ∧ SimA nm ad X.K H0 m0 es σ' H' ρ' S3 m3 ∧ forD stay (fun x ρ S z => tgD tg x ρ fun ρ' => db ρ' S z) (xs.drop (k + 1)) ρ' S3 (ZOf nm ad X.K H0 m0 es Xc D H m),
      fun σ' H' ⟨ρ', S3, m3, a1, a2, a3⟩ => ⟨xs.length - (k + 1), by omega, rfl, hlt, ρ', S3, m3, a1, a2, a3⟩, fun x H3 hy => ?_⟩
    obtain ⟨e3, n3, r3⟩ := yl x H3 hy
    have s3 := s2.step e3 n3
    refine tg_r hsl s3 r3 w fun σ4 ρ4 ag s4 w4 => ?_
    have e4 := e1.trans (e2.trans e3)
    exact ⟨ρ4, S2, m2, s4, mb _ _ _ _ (ZOf.loop (D := D) e4 (fun ρ' S' σ' H' m' e' s' q => ⟨ρ', S', m', (e2.trans e3).trans e', s', q⟩) (fun ρ' S' σ' H' m' e' s' q => ⟨ρ', S', m', (e2.trans e3).trans e', s', q⟩)) w4⟩
  · have hi : k = xs.length := by omega
    subst hi
    rw [List.drop_eq_nil_of_le (Nat.le_refl _)] at w
    exact .inl ⟨it.stop _ H2 m2 S2 (Nat.le_refl _) e2 s2.sim w.1, w.2 _ _ _ (e1.trans e2) s2⟩
theorem ext_lock {H H' : Hp} {m m' : List Addr} {a : Addr} {o1 : Obj} {v : HO} (hv : Mu (some v)) (h0 : H a = some v) (e : Ext (upd H a (.frz o1 v)) m H' m') : Ext H m (upd H' a v) m' :=
  ⟨fun b xs q => by
    have hb : b ≠ a := fun z => by rw [z, h0] at q; cases q; exact hv
    rw [upd_ne hb]
    exact e.tup b xs (by rw [upd_ne hb]; exact q), fun b o u q => by
    have hb : b ≠ a := fun z => by rw [z, h0] at q; cases q; exact hv
    rw [upd_ne hb]
    exact e.frz b o u (by rw [upd_ne hb]; exact q), e.pre⟩
theorem extw_un {H : Hp} {m : List Addr} {a : Addr} {o1 : Obj} {v : HO} (hv : ∀ xs, v ≠ .lst xs ∧ v ≠ .tup xs) (h : H a = some (.frz o1 v)) : ExtW H m (upd H a v) m :=
  ⟨fun b xs q => by rw [upd_ne (fun z => by rw [z, h] at q; cases q)]; exact q, fun b o xs q => by rw [upd_ne (fun z => by rw [z, h] at q; cases q; exact (hv xs).1 rfl)]; exact q,
    fun b o xs q => by rw [upd_ne (fun z => by rw [z, h] at q; cases q; exact (hv xs).2 rfl)]; exact q, fun _ _ q => q⟩
theorem lock_of {nm : Nm} {ad : Ad} {K : PySem.W.Frag} {H : Hp} {m : List Addr} {a : Addr} {o u : O} (hz : frzO o = some u) (r : RepO nm ad K H m a o) : ∃ v, H a = some v ∧ Mut (some v) ∧ Mu (some v) ∧ (∀ xs, v ≠ .lst xs ∧ v ≠ .tup xs) ∧
    (∀ od, RepO nm ad K (upd H a (.frz od v)) m a u) ∧ ∀ od (H' : Hp) (m' : List Addr), RepO nm ad K H' m' a u → H' a = some (.frz od v) → RepO nm ad K (upd H' a v) m' a o := by
  cases o with
  | dk kvs =>
    cases hz
    obtain ⟨r, h1, h2⟩ := r
    refine ⟨_, h1, trivial, trivial, fun xs => ⟨(fun z => by cases z), (fun z => by cases z)⟩, fun od => ⟨r, ⟨od, upd_same⟩, h2.ext (ext_mut (mu_of h1 trivial))⟩, fun od H' m' ⟨r', ⟨o', g1⟩, g2⟩ e => ?_⟩
    rw [e] at g1
    cases g1
    exact ⟨r, upd_same, g2.extw (extw_un (fun xs => ⟨(fun z => by cases z), (fun z => by cases z)⟩) e)⟩
  | dt kvs =>
    cases hz
    obtain ⟨r, h1, h2⟩ := r
    refine ⟨_, h1, trivial, trivial, fun xs => ⟨(fun z => by cases z), (fun z => by cases z)⟩, fun od => ⟨r, ⟨od, upd_same⟩, h2.ext (ext_mut (mu_of h1 trivial))⟩, fun od H' m' ⟨r', ⟨o', g1⟩, g2⟩ e => ?_⟩
    rw [e] at g1
    cases g1
    exact ⟨r, upd_same, g2.extw (extw_un (fun xs => ⟨(fun z => by cases z), (fun z => by cases z)⟩) e)⟩
  | _ => cases hz
theorem t_lock {st : Stmt} {d : DenS} (h : PS X st (tS nm ad X.K H0 m0 es Xc d)) (md : MonS d) : PS X st (tS nm ad X.K H0 m0 es Xc fun ρ S z => ∃ n o u, frzO o = some u ∧ S[n]? = some o ∧ d ρ (S.set n u) (lockZ n u o z)) :=
  (ps_lock h).wimp fun D σ H ⟨ρ, S, m, s, n, o, u, hz, hn, q⟩ => by
    have hlt : n < m.length := by rw [s.sim.len]; exact (List.getElem?_eq_some_iff.mp hn).1
    have ha : m[n]? = some m[n] := List.getElem?_eq_getElem hlt
    generalize m[n] = a at ha
    obtain ⟨v, h1, h2, h3, h4, h5, h6⟩ := lock_of hz (s.sim.obj n o a hn ha)
    refine ⟨a, v, h1, h2, fun od => ?_⟩
    have em : Ext H m (upd H a (.frz od v)) m := ext_mut (mu_of h1 h3)
    have hfr : ∀ {H' m'}, Ext (upd H a (.frz od v)) m H' m' → H' a = some (.frz od v) := fun e => e.frz _ _ _ upd_same
    have back : ∀ {H' m' S'}, Ext (upd H a (.frz od v)) m H' m' → Sim nm ad X.K H' m' S' → S'[n]? = some u → Sim nm ad X.K (upd H' a v) m' (S'.set n o) := fun {H' m' S'} e s' hu =>
      s'.updw (extw_un h4 (hfr e)) (e.pre _ _ ha) (h6 od H' m' (s'.obj n u a hu (e.pre _ _ ha)) (hfr e))
    have backA : ∀ {σ' H' ρ' m' S'}, Ext (upd H a (.frz od v)) m H' m' → SimA nm ad X.K H0 m0 es σ' H' ρ' S' m' → S'[n]? = some u → SimA nm ad X.K H0 m0 es σ' (upd H' a v) ρ' (S'.set n o) m' := fun {σ' H' ρ' m' S'} e s' hu =>
      ⟨back e s'.sim hu, s'.len, fun i d hi hj => let ⟨w, a1, a2⟩ := s'.at_ i d hi hj; ⟨w, a1, a2.extw (extw_un h4 (hfr e))⟩, s.anc.trans (ext_lock h3 h1 e), s'.hold⟩
    refine ⟨ρ, S.set n u, m, s.step em (s.sim.upd (mu_of h1 h3) ha (h5 od)), md _ _ _ _ ?_ q⟩
    exact ⟨fun ρ' S' ⟨w1, w2⟩ σ' H' m' e s' => ⟨hfr e, w2 _ _ _ (ext_lock h3 h1 e) (backA e s' w1)⟩,
      fun d' S' ⟨w1, w2⟩ x H' m' e s' r' => ⟨hfr e, w2 _ _ _ (ext_lock h3 h1 e) (back e s' w1) (r'.extw (extw_un h4 (hfr e)))⟩,
      fun ρ' S' ⟨w1, w2⟩ σ' H' m' e s' => ⟨hfr e, w2 _ _ _ (ext_lock h3 h1 e) (backA e s' w1)⟩,
      fun ρ' S' ⟨w1, w2⟩ σ' H' m' e s' => ⟨hfr e, w2 _ _ _ (ext_lock h3 h1 e) (backA e s' w1)⟩,
      fun _ _ _ w => w.elim⟩
theorem t_raise (hcalm : X.calm = true) (tk : Takes X (WOf nm ad X.K H0 m0 es Xc)) (hx : Wx X.K X.mg nm ad) {k : Nat} {x m : Str} {j : Nat} {p p2 pos pos2 : Pos} (he : nm.exn[k]? = some x) (hg : Gl X x) (hn : okName x = true) :
    PS X (.Raise (some (.Call (.Name x p) [.Constant (.str m) j p2] [] pos)) none pos2) (tS nm ad X.K H0 m0 es Xc fun ρ S z => z.ex k ρ S) := by
  obtain ⟨h1, h2, h3, h4, h5⟩ := hx.exn k x he
  exact (ps_raise hcalm tk (pmk_own PySem.F.excBase_ValueError h2 h1 h3 (raises_own h4 h5) hg (okName_of hn).1)).wimp fun D σ H ⟨ρ, S, m, s, q⟩ => ⟨k, ρ, S, m, rfl, rfl, s, q⟩
end
end Wp

/-! the calculus against the hand layer: blocks, defs -/
namespace Wp
open PySem PySem.Spec PyProof.Rows L2

section
variable {nm : Nm} {ad : Ad} {Γ : Tab}
/-- name = a comprehension on one line -/
theorem t_setLc {H0 : Hp} {m0 : List Addr} {X : Cx} {es : Es} {Xc : Nat → Env → Sto → Prop} (hcalm : X.calm = true) (hN : X.N.Nodup) (hk : X.env.scope.kind = .function) {k : Nat} {x : Str} {px spos : Pos} {tg : Tg} (hsl : ∀ j ∈ tg.slots, j ∉ es.1) (hke : k ∉ es.1) {elt t i : Expr} {ifs : List Expr} {scope : Scope} {own : List (Str × Nat)} {pos : Pos} {dI : Env → Sto → (List D → (Sto → Prop) → Sto → Prop) → XD → Prop} {dt : List DenT} {de : Den}
    (hx : X.N[k]? = some x) (hl : X.env.scope.names.lookup x = some .local) (hline : (px.line == pos.line) = true) (hown : (scope.names.any fun (n, k) => n == x && (k == .local || k == .cell)) = false)
    (hi : PI X t i (tI nm ad H0 m0 es Xc X.K dI)) (ok : BlkOk X.N X.env.scope scope own) (ho : own.map (·.2) = tg.slots) (mi : MonI dI) (mt : ∀ d ∈ dt, MonT d) (me : MonD de)
    (hg : ∀ (s : Shared) (H : Hp) (C : Addr) (cl : List (Str × Addr)) (fp : List Addr), PG (X.blk s H scope (compEnvC scope cl C X.env) fp) t (gTg X.K tg))
    (ht : ∀ (s : Shared) (H : Hp) (C : Addr) (cl : List (Str × Addr)) (fp : List Addr), PTs (X.blk s H scope (compEnvC scope cl C X.env) fp) ifs (tB' nm ad X.K H0 m0 es (fun _ _ _ => False) (andsT dt)))
    (he : ∀ (s : Shared) (H : Hp) (C : Addr) (cl : List (Str × Addr)) (fp : List Addr), PE (X.blk s H scope (compEnvC scope cl C X.env) fp) elt (tE nm ad X.K H0 m0 es (fun _ _ _ => False) de)) (hs : notSet i = true)
    (mlc : MonD fun ρ S Q Y => dI ρ S (fun xs stay S1 =>
      lcD S1.length stay (fun x k => tgD tg x (wipeE ρ tg.slots) k) (fun ρ' S2 k => andsT dt ρ' S2 k (fun _ _ => False)) (fun ρ' S2 k => de ρ' S2 k (fun _ _ => False)) xs (S1 ++ [.lst []]) (fun S3 => Q (.loc S1.length) S3)) Y) :
    PS X (.Assign [.Name x px] (.ListComp elt [⟨t, i, ifs, 0⟩] scope pos) spos) (tS nm ad X.K H0 m0 es Xc fun ρ S z => dI ρ S (fun xs stay S1 =>
      lcD S1.length stay (fun x k => tgD tg x (wipeE ρ tg.slots) k) (fun ρ' S2 k => andsT dt ρ' S2 k (fun _ _ => False)) (fun ρ' S2 k => de ρ' S2 k (fun _ _ => False)) xs (S1 ++ [.lst []]) (fun S3 => z.nx (ρ.set k (some (.loc S1.length))) S3)) (fun c S1 => z.ex c ρ S1)) :=
  (ps_setLc hcalm hN hx hl (sw_true hk hl hline hown) hi ok hg ht he (set_of hs)).wimp fun D σ H ⟨ρ, S, m, s, q⟩ => by
    refine lc_wk hsl ho mi mt me σ H _ (tE_of (R := fun x H1 => gName k x σ H1 D.nx) (Q0 := fun d S3 => (ZOf nm ad X.K H0 m0 es Xc D H m).nx (ρ.set k (some d)) S3) mlc s q fun v S1 y H1 m1 e1 s1 r1 q1 => q1 _ _ _ e1 (s1.set r1 hke))

mutual
theorem sS : ∀ (p : Sm) {H0 : Hp} {m0 : List Addr} {hs : List (Nat × Addr × Nat)} {X : Cx} {c : Ck} {Xc : Nat → Env → Sto → Prop} (st : Stmt), Cs X c nm ad Γ H0 m0 hs Xc → chkS nm Γ.init p c st = true → PS X st (tS nm ad X.K H0 m0 (c.es, hs) Xc (denS Γ p))
  | .set i e, H0, m0, hs, X, c, Xc, st, g, h => by
    unfold chkS at h
    split at h
    · rename_i x px v pos
      simp only [Bool.and_eq_true] at h
      obtain ⟨⟨h1, h2⟩, h3⟩ := h
      by_cases hns : X.env.scope.names.lookup x ≠ some .local ∨ isComp v = false
      · exact t_set (fun _ z => z) g.g.o h1 h2 hns (sE e _ g.g h3) (den_mono g.g.w.n.mono e)
      · have hx : X.env.scope.names.lookup x = some .local := Classical.byContradiction fun z => hns (.inl z)
        have hcv : isComp v = true := by cases q : isComp v with | true => rfl | false => exact absurd (.inr q) hns
        cases v with
        | ListComp el gens scope cp =>
          have h2' := h2
          rw [setB, ← g.g.o.sc, hx] at h2'
          simp at h2'
          cases e with
          | lc e' tg it ts =>
            unfold chkE at h3
            split at h3
            · rename_i el' t i' ifs scope' p' eq
              cases eq
              simp only [Bool.and_eq_true, decide_eq_true_eq] at h3
              obtain ⟨⟨⟨⟨⟨⟨⟨⟨⟨⟨hc, hes⟩, hb⟩, hi⟩, hs⟩, hit⟩, htg⟩, hj⟩, hl⟩, hts⟩, he⟩ := h3
              unfold chkName at h1
              simp only [Bool.and_eq_true, decide_eq_true_eq] at h1
              refine t_setLc (g.g.o.calm hc).1 g.g.o.nd g.hk (tg_slots htg) (fun z => by rw [List.isEmpty_iff.mp hes] at z; cases z) (by rw [g.g.o.N]; exact h1.1.1.1) hx (by simpa using h2'.1) (by simpa using h2'.2) (sI it _ _ g.g hit hi) (blkOk_by (own := ownOf c.N tg.slots) (by rw [g.g.o.N, g.g.o.sc]; exact hb)) (own_slots _ _) (denI_mono g.g.w.n.mono it) (denTA_mono g.g.w.n.mono ts) (den_mono g.g.w.n.mono e') ?_ ?_ ?_ hs ?_
              · exact fun s H C cl fp => pg_of (c := c.blk _) (g.g.blk hes s H C cl fp).o htg
              · exact fun s H C cl fp => pts_of hl (sTs ts (c := c.blk _) _ (g.g.blk hes s H C cl fp) hts)
              · exact fun s H C cl fp => sE e' (c := c.blk _) _ (g.g.blk hes s H C cl fp) he
              · exact den_mono g.g.w.n.mono (.lc e' tg it ts)
            · cases h3
          | _ => unfold chkE at h3; first | cases h3 | simp at h3
        | _ => cases hcv
    · cases h
  | .setg tg e, H0, m0, hs, X, c, Xc, st, g, h => by
    unfold chkS at h
    split at h
    · simp only [Bool.and_eq_true] at h
      exact t_setg (fun _ z => z) g.g.o h.1.1 h.1.2 (sE e _ g.g h.2) (den_mono g.g.w.n.mono e)
    · cases h
  | .par i j a b, H0, m0, hs, X, c, Xc, st, g, h => by
    unfold chkS at h
    split at h
    · simp only [Bool.and_eq_true, decide_eq_true_eq, Bool.not_eq_true'] at h
      obtain ⟨⟨⟨⟨⟨⟨⟨⟨⟨⟨⟨⟨⟨⟨⟨hc, hi⟩, hj⟩, hij⟩, hie⟩, hje⟩, hxy⟩, hx⟩, hy⟩, hl⟩, hf⟩, hcn⟩, hu⟩, hv⟩, h1⟩, h2⟩ := h
      exact t_par (g.g.o.calm hc).1 g.g.o g.hk (fun z => by rw [List.contains_iff_mem.mpr z] at hie; cases hie) (fun z => by rw [List.contains_iff_mem.mpr z] at hje; cases hje) hi hj hij hxy hx hy hl hf hcn hu hv (sE a _ g.g h1) (den_mono g.g.w.n.mono a) (sE b _ g.g h2) (den_mono g.g.w.n.mono b)
    · cases h
  | .aug i op e, H0, m0, hs, X, c, Xc, st, g, h => by
    unfold chkS at h
    split at h
    · simp only [Bool.and_eq_true, decide_eq_true_eq, Bool.not_eq_true'] at h
      obtain ⟨⟨⟨⟨h1, h2⟩, rfl⟩, h3⟩, h4⟩ := h
      exact t_aug g.g.o h1 (fun z => by rw [List.contains_iff_mem.mpr z] at h2; cases h2) h3 (sE e _ g.g h4) (den_mono g.g.w.n.mono e)
    · cases h
  | .fset o f e, H0, m0, hs, X, c, Xc, st, g, h => by
    unfold chkS at h
    split at h
    · simp only [Bool.and_eq_true, decide_eq_true_eq] at h
      exact t_fset g.g.w.n h.1.1 (sE o _ g.g h.1.2) (den_mono g.g.w.n.mono o) (sE e _ g.g h.2) (den_mono g.g.w.n.mono e)
    · cases h
  | .faug o f op e, H0, m0, hs, X, c, Xc, st, g, h => by
    unfold chkS at h
    split at h
    · simp only [Bool.and_eq_true, decide_eq_true_eq] at h
      obtain ⟨⟨⟨⟨h1, rfl⟩, h3⟩, h4⟩, h5⟩ := h
      exact t_faug g.g.w.n h3 h1 (sE o _ g.g h4) (den_mono g.g.w.n.mono o) (sE e _ g.g h5) (den_mono g.g.w.n.mono e)
    · cases h
  | .iset o i e, H0, m0, hs, X, c, Xc, st, g, h => by
    unfold chkS at h
    split at h
    · simp only [Bool.and_eq_true] at h
      exact t_iset h.1.1.1 (sE o _ g.g h.1.1.2) (den_mono g.g.w.n.mono o) (sE i _ g.g h.1.2) (den_mono g.g.w.n.mono i) (sE e _ g.g h.2) (den_mono g.g.w.n.mono e)
    · cases h
  | .dset o i e, H0, m0, hs, X, c, Xc, st, g, h => by
    unfold chkS at h
    split at h
    · simp only [Bool.and_eq_true] at h
      obtain ⟨⟨⟨⟨hc, h1⟩, h2⟩, h3⟩, h4⟩ := h
      exact t_dset (g.g.hu hc) h1 (sE o _ g.g h2) (den_mono g.g.w.n.mono o) (sE i _ g.g h3) (den_mono g.g.w.n.mono i) (sE e _ g.g h4) (den_mono g.g.w.n.mono e)
    · cases h
  | .daug o i op e, H0, m0, hs, X, c, Xc, st, g, h => by
    unfold chkS at h
    split at h
    · simp only [Bool.and_eq_true, decide_eq_true_eq] at h
      obtain ⟨⟨⟨⟨⟨⟨hc, h1⟩, rfl⟩, h5⟩, h2⟩, h3⟩, h4⟩ := h
      exact t_daug (g.g.hu hc) h5 h1 (sE o _ g.g h2) (den_mono g.g.w.n.mono o) (sE i _ g.g h3) (den_mono g.g.w.n.mono i) (sE e _ g.g h4) (den_mono g.g.w.n.mono e)
    · cases h
  | .expr e, H0, m0, hs, X, c, Xc, st, g, h => by
    unfold chkS at h
    split at h
    · simp only [Bool.and_eq_true] at h
      exact t_expr h.1 (sE e _ g.g h.2) (den_mono g.g.w.n.mono e)
    · cases h
  | .ret e, H0, m0, hs, X, c, Xc, st, g, h => by
    unfold chkS at h
    split at h
    · exact t_ret (sE e _ g.g h) (den_mono g.g.w.n.mono e)
    · cases h
  | .retN, H0, m0, hs, X, c, Xc, st, g, h => by
    unfold chkS at h
    split at h
    · exact ps_retN.wimp fun D σ H ⟨ρ, S, m, s, q⟩ => q _ _ _ .refl s.sim .non
    · cases h
  | .ife t a b, H0, m0, hs, X, c, Xc, st, g, h => by
    unfold chkS at h
    split at h
    · simp only [Bool.and_eq_true] at h
      exact t_ife (sT t _ g.g h.1.1) (denT_mono g.g.w.n.mono t) (sB a _ g h.1.2) (denB_mono g.g.w.n.mono a) (sB b _ g h.2) (denB_mono g.g.w.n.mono b)
    · cases h
  | .whil t b, H0, m0, hs, X, c, Xc, st, g, h => by
    unfold chkS at h
    split at h
    · simp only [Bool.and_eq_true] at h
      exact t_whil g.po (sT t _ g.g h.1) (denT_mono g.g.w.n.mono t) (sB b _ g h.2) (denB_mono g.g.w.n.mono b)
    · cases h
  | .for_ tg it b, H0, m0, hs, X, c, Xc, st, g, h => by
    unfold chkS at h
    split at h
    · simp only [Bool.and_eq_true] at h
      obtain ⟨⟨⟨⟨⟨hc, hi⟩, hs⟩, hit⟩, htg⟩, hb⟩ := h
      exact t_for (g.g.o.calm hc).1 g.po (tg_slots htg) (sI it _ _ g.g hit hi) hs (pg_of g.g.o htg) (sB b _ g hb) (denI_mono g.g.w.n.mono it) (denB_mono g.g.w.n.mono b)
    · cases h
  | .brk, H0, m0, hs, X, c, Xc, st, g, h => by
    unfold chkS at h
    split at h
    · exact ps_break.wimp fun D σ H ⟨ρ, S, m, s, q⟩ => q _ _ _ .refl s
    · cases h
  | .cont, H0, m0, hs, X, c, Xc, st, g, h => by
    unfold chkS at h
    split at h
    · exact ps_continue.wimp fun D σ H ⟨ρ, S, m, s, q⟩ => q _ _ _ .refl s
    · cases h
  | .pass, H0, m0, hs, X, c, Xc, st, g, h => by
    unfold chkS at h
    split at h
    · exact ps_pass.wimp fun D σ H ⟨ρ, S, m, s, q⟩ => q _ _ _ .refl s
    · cases h
  | .raise k, H0, m0, hs, X, c, Xc, st, g, h => by
    unfold chkS at h
    split at h
    · simp only [Bool.and_eq_true, decide_eq_true_eq] at h
      obtain ⟨⟨⟨hc, h1⟩, h2⟩, h3⟩ := h
      exact t_raise (g.g.o.calm hc).1 g.g.t g.x h1 (g.g.o.gl h2) h3
    · cases h
  | .lock p, H0, m0, hs, X, c, Xc, st, g, h => by
    unfold chkS at h
    exact t_lock (sS p st g h) (denS_mono g.g.w.n.mono p)
  | .tryx b C (some i) hb, H0, m0, hs, X, c, Xc, st, g, h => by
    unfold chkS at h
    split at h
    · rename_i body x np n b₀ suite pos' pos
      simp only [Bool.and_eq_true, decide_eq_true_eq] at h
      obtain ⟨⟨⟨⟨⟨⟨⟨⟨hc, hes⟩, hC⟩, hg⟩, hn⟩, hN⟩, hl⟩, hb1⟩, hb2⟩ := h
      have e0 : c.es = [] := List.isEmpty_iff.mp hes
      have hNi : X.N[i]? = some n := by rw [g.g.o.N]; exact hN
      refine (ps_try_as (tb := fun W D σ H => ∃ ρ S m Xc', SimA nm ad X.K H m (c.es, hs) σ H ρ S m ∧ (∀ cls d σ' H', WOf nm ad X.K H m (c.es, hs) Xc' cls d σ' H' → W cls d σ' H') ∧ denB Γ b ρ S (ZOf nm ad X.K H m (c.es, hs) Xc' D H m))
        (ts := fun a cls d D σ H => ∃ k Ha ma σ0 ρ0 S m c' b', cls = .ref (ad.ex k) ∧ d = none ∧ Γ.exs k c' = some b' ∧ σ = σ0.set i (some (.ref a)) ∧ SimA nm ad X.K Ha ma (c.es, hs) σ0 H ρ0 S m ∧ denB Γ hb (ρ0.set i (some (.exc k))) S (ZOf nm ad X.K Ha ma ([i], [(i, a, k)]) (fun _ _ _ => False) D H m))
        (Wout := WOf nm ad X.K H0 m0 (c.es, hs) Xc) g.stk g.fr g.g.o.nd hNi (show X.env.scope.names.lookup n = some .local by rw [g.g.o.sc]; exact hl) ⟨g.g.o.gl hg, (okName_of hn).1, .inl (g.g.w.n.gex C x hC)⟩ g.g.t (fun W pn xe tk po => ?_) (fun a oe cls d pn hz hf => ?_)).wimp fun D σ H ⟨ρ, S, m, s, q⟩ => ?_
      · exact ⟨fun pins s σ H D I ⟨ρ, S, m, Xc', sa, imp, q⟩ => (sB b body (H0 := H) (m0 := m) (hs := hs) (X := X.tr pn xe) (c := c) (Xc := Xc') ⟨⟨g.g.w, ⟨g.g.o.N, g.g.o.nd, g.g.o.sc, g.g.o.fn, g.g.o.calm⟩, tk.imp imp, fun i hi => by rw [e0] at hi; cases hi⟩, g.x, po, g.hk, g.stk, g.fr⟩ hb1).run pins s σ H D I ⟨ρ, S, m, sa, q⟩⟩
      · refine ⟨fun pins s σ H D I ⟨k, Ha, ma, σ0, ρ0, S, m, c', b', e1, e2, ex, e3, sa, q⟩ => ?_⟩
        subst e1; subst e2
        have call := call_isX (X := X) (a := a) (oe := oe) (pn := pn) (g.g.w.n.exc k c' b' ex) hz hf
        have fxs : ∀ f, nm.isx f = true → nm.lv f ≠ 0 → nm.lv f ≤ c.k → CallR (X.suite a ((a, oe) :: pn)) (.ref (ad.fn f)) (rFx nm ad Γ X.K f a k) ∧ PySem.W.keepIn X.K (.ref (ad.fn f)) = true := fun f h1 h2 h3 =>
          ⟨call_fx (g.g.w.fx f h1 h2 h3) (g.g.o.calm hc).2 h3 (g.g.w.n.exc k c' b' ex) hz hf, (g.g.w.fx f h1 h2 h3).kp⟩
        have hlt : i < σ0.length := by
          have h1 := I.len
          rw [e3, List.length_set] at h1
          rw [h1]
          exact (List.getElem?_eq_some_iff.mp hNi).1
        have sa' : SimA nm ad X.K Ha ma ([i], [(i, a, k)]) σ H (ρ0.set i (some (.exc k))) S m := by
          subst e3
          refine ⟨sa.sim, by rw [List.length_set, List.length_set]; exact sa.len, fun j d hj hn => ?_, sa.anc, fun p hp => ?_⟩
          · have hne : i ≠ j := fun e => hn (by rw [e]; exact List.mem_singleton.mpr rfl)
            rw [List.getElem?_set_ne hne] at hj ⊢
            exact sa.at_ j d hj (by show j ∉ c.es; rw [e0]; exact fun z => by cases z)
          · cases List.mem_singleton.mp hp
            exact ⟨List.mem_singleton.mpr rfl, List.getElem?_set_self hlt, List.getElem?_set_self (by rw [sa.len]; exact hlt)⟩
        exact (sB hb (b₀ :: suite) (H0 := Ha) (m0 := ma) (hs := [(i, a, k)]) (X := X.suite a ((a, oe) :: pn)) (c := { c with calm := false, es := [i] }) (Xc := fun _ _ _ => False)
          ⟨⟨g.g.w, ⟨g.g.o.N, g.g.o.nd, g.g.o.sc, g.g.o.fn, fun z => by cases z⟩, fun u s' ⟨_, _, _, _, _, _, _, _, _, _, _, _, _, _, _, _, w⟩ => by
            obtain ⟨_, _, _, _, _, _, _, z⟩ := w
            exact z.elim, fun j hj => ⟨a, k, by cases List.mem_singleton.mp hj; exact List.mem_singleton.mpr rfl, call, fxs⟩⟩, g.x, PassesOwn.never, g.hk, g.stk, g.fr⟩ hb2).run pins s σ H D I ⟨_, S, m, sa', q⟩
      · have re : ∀ {es σ' H' ρ' S' m'}, SimA nm ad X.K H m es σ' H' ρ' S' m' → SimA nm ad X.K H0 m0 es σ' H' ρ' S' m' := fun z => ⟨z.sim, z.len, z.at_, s.anc.trans z.anc, z.hold⟩
        refine ⟨ρ, S, m, fun k ρ' S' => ∃ y, Γ.exs k (.own C) = some y ∧ Br y (denB Γ hb (ρ'.set i (some (.exc k))) S' { nx := fun r s => (ZOf nm ad X.K H0 m0 (c.es, hs) Xc D H m).nx (r.set i none) s, rt := (ZOf nm ad X.K H0 m0 (c.es, hs) Xc D H m).rt, bk := fun r s => (ZOf nm ad X.K H0 m0 (c.es, hs) Xc D H m).bk (r.set i none) s, ct := fun r s => (ZOf nm ad X.K H0 m0 (c.es, hs) Xc D H m).ct (r.set i none) s, ex := fun _ _ _ => False }) (Xc k ρ' S'), ⟨s.sim, s.len, s.at_, .refl, s.hold⟩, fun cls d σ' H' ⟨k, ρ', S', m', e1, e2, s', y, hy, w⟩ => ?_, denB_mono g.g.w.n.mono b _ _ _ _ ?_ q⟩
        · subst e1; subst e2
          refine ⟨y, g.g.w.n.exm k C y hy, fun hyt a hna => ⟨k, H, m, σ', ρ', S', m', _, y, rfl, rfl, hy, rfl, s', denB_mono g.g.w.n.mono hb _ _ _ _ ?_ (w.1 hyt)⟩, fun hyf => ⟨k, ρ', S', m', rfl, rfl, re s', w.2 hyf⟩⟩
          have wp : ∀ {σ2 H2 ρ2 S2 m2}, SimA nm ad X.K H m ([i], [(i, a, k)]) σ2 H2 ρ2 S2 m2 → SimA nm ad X.K H0 m0 (c.es, hs) (σ2.set i none) H2 (ρ2.set i none) S2 m2 := fun {σ2 H2 ρ2 S2 m2} z =>
            ⟨z.sim, by rw [List.length_set, List.length_set]; exact z.len, fun j d hj _ => by
              by_cases e : i = j
              · subst e
                by_cases hlt : i < ρ2.length
                · rw [List.getElem?_set_self hlt] at hj; cases hj
                · rw [List.getElem?_eq_none (by simpa using hlt)] at hj; cases hj
              · rw [List.getElem?_set_ne e] at hj ⊢
                exact z.at_ j d hj fun zz => e (List.mem_singleton.mp zz).symm, s.anc.trans z.anc, fun p hp => by
              have h0 := (s.hold p hp).1
              rw [e0] at h0
              cases h0⟩
          exact ⟨fun _ _ v σ2 H2 m2 e2 s2 => v _ _ _ (s'.anc.trans e2) (wp s2), fun _ _ v x H2 m2 e2 s2 r2 => v _ _ _ (s'.anc.trans e2) s2 r2, fun _ _ v σ2 H2 m2 e2 s2 => v _ _ _ (s'.anc.trans e2) (wp s2), fun _ _ v σ2 H2 m2 e2 s2 => v _ _ _ (s'.anc.trans e2) (wp s2), fun _ _ _ v => v⟩
        · exact ⟨fun _ _ v σ2 H2 m2 e2 s2 => v _ _ _ e2 (re s2), fun _ _ v => v, fun _ _ v σ2 H2 m2 e2 s2 => v _ _ _ e2 (re s2), fun _ _ v σ2 H2 m2 e2 s2 => v _ _ _ e2 (re s2), fun _ _ _ v => v⟩
    · cases h
  | .tryx b C none hb, H0, m0, hs, X, c, Xc, st, g, h => by
    unfold chkS at h
    split at h
    · rename_i body x np b₀ suite pos' pos
      simp only [Bool.and_eq_true, decide_eq_true_eq] at h
      obtain ⟨⟨⟨⟨⟨⟨hc, hes⟩, hC⟩, hg⟩, hn⟩, hb1⟩, hb2⟩ := h
      have e0 : c.es = [] := List.isEmpty_iff.mp hes
      refine (ps_try_only (tb := fun W D σ H => ∃ ρ S m Xc', SimA nm ad X.K H m (c.es, hs) σ H ρ S m ∧ (∀ cls d σ' H', WOf nm ad X.K H m (c.es, hs) Xc' cls d σ' H' → W cls d σ' H') ∧ denB Γ b ρ S (ZOf nm ad X.K H m (c.es, hs) Xc' D H m))
        (ts := fun a cls d D σ H => ∃ Ha ma ρ0 S m, SimA nm ad X.K Ha ma (c.es, hs) σ H ρ0 S m ∧ denB Γ hb ρ0 S (ZOf nm ad X.K Ha ma (c.es, hs) (fun _ _ _ => False) D H m))
        (Wout := WOf nm ad X.K H0 m0 (c.es, hs) Xc) g.stk g.fr ⟨g.g.o.gl hg, (okName_of hn).1, .inl (g.g.w.n.gex C x hC)⟩ g.g.t (fun W pn xe tk po => ?_) (fun a oe cls d pn hz hf => ?_)).wimp fun D σ H ⟨ρ, S, m, s, q⟩ => ?_
      · exact ⟨fun pins s σ H D I ⟨ρ, S, m, Xc', sa, imp, q⟩ => (sB b body (H0 := H) (m0 := m) (hs := hs) (X := X.tr pn xe) (c := c) (Xc := Xc') ⟨⟨g.g.w, ⟨g.g.o.N, g.g.o.nd, g.g.o.sc, g.g.o.fn, g.g.o.calm⟩, tk.imp imp, fun i hi => by rw [e0] at hi; cases hi⟩, g.x, po, g.hk, g.stk, g.fr⟩ hb1).run pins s σ H D I ⟨ρ, S, m, sa, q⟩⟩
      · exact ⟨fun pins s σ H D I ⟨Ha, ma, ρ0, S, m, sa, q⟩ => (sB hb (b₀ :: suite) (H0 := Ha) (m0 := ma) (hs := hs) (X := X.suite a ((a, oe) :: pn)) (c := { c with calm := false }) (Xc := fun _ _ _ => False)
          ⟨⟨g.g.w, ⟨g.g.o.N, g.g.o.nd, g.g.o.sc, g.g.o.fn, fun z => by cases z⟩, fun u s' ⟨_, _, _, _, _, _, _, _, _, _, _, _, _, _, _, _, w⟩ => by
            obtain ⟨_, _, _, _, _, _, _, z⟩ := w
            exact z.elim, fun j hj => by have hj : j ∈ c.es := hj; rw [e0] at hj; cases hj⟩, g.x, PassesOwn.never, g.hk, g.stk, g.fr⟩ hb2).run pins s σ H D I ⟨_, S, m, sa, q⟩⟩
      · have re : ∀ {es σ' H' ρ' S' m'}, SimA nm ad X.K H m es σ' H' ρ' S' m' → SimA nm ad X.K H0 m0 es σ' H' ρ' S' m' := fun z => ⟨z.sim, z.len, z.at_, s.anc.trans z.anc, z.hold⟩
        refine ⟨ρ, S, m, fun k ρ' S' => ∃ y, Γ.exs k (.own C) = some y ∧ Br y (denB Γ hb ρ' S' { (ZOf nm ad X.K H0 m0 (c.es, hs) Xc D H m) with ex := fun _ _ _ => False }) (Xc k ρ' S'), ⟨s.sim, s.len, s.at_, .refl, s.hold⟩, fun cls d σ' H' ⟨k, ρ', S', m', e1, e2, s', y, hy, w⟩ => ?_, denB_mono g.g.w.n.mono b _ _ _ _ ?_ q⟩
        · subst e1; subst e2
          refine ⟨y, g.g.w.n.exm k C y hy, fun hyt a hna => ⟨H, m, ρ', S', m', s', denB_mono g.g.w.n.mono hb _ _ _ _ ?_ (w.1 hyt)⟩, fun hyf => ⟨k, ρ', S', m', rfl, rfl, re s', w.2 hyf⟩⟩
          exact ⟨fun _ _ v σ2 H2 m2 e2 s2 => v _ _ _ (s'.anc.trans e2) (re s2), fun _ _ v x H2 m2 e2 s2 r2 => v _ _ _ (s'.anc.trans e2) s2 r2, fun _ _ v σ2 H2 m2 e2 s2 => v _ _ _ (s'.anc.trans e2) (re s2), fun _ _ v σ2 H2 m2 e2 s2 => v _ _ _ (s'.anc.trans e2) (re s2), fun _ _ _ v => v⟩
        · exact ⟨fun _ _ v σ2 H2 m2 e2 s2 => v _ _ _ e2 (re s2), fun _ _ v => v, fun _ _ v σ2 H2 m2 e2 s2 => v _ _ _ e2 (re s2), fun _ _ v σ2 H2 m2 e2 s2 => v _ _ _ e2 (re s2), fun _ _ _ v => v⟩
    · cases h
theorem sB : ∀ (p : Bl) {H0 : Hp} {m0 : List Addr} {hs : List (Nat × Addr × Nat)} {X : Cx} {c : Ck} {Xc : Nat → Env → Sto → Prop} (ss : List Stmt), Cs X c nm ad Γ H0 m0 hs Xc → chkB nm Γ.init p c ss = true → PSs X ss (tS nm ad X.K H0 m0 (c.es, hs) Xc (denB Γ p))
  | .nil, H0, m0, hs, X, c, Xc, ss, g, h => by
    unfold chkB at h
    cases ss with
    | nil => exact pss_nil.wimp fun D σ H ⟨ρ, S, m, s, q⟩ => q _ _ _ .refl s
    | cons _ _ => cases h
  | .cons p r, H0, m0, hs, X, c, Xc, ss, g, h => by
    unfold chkB at h
    cases ss with
    | nil => cases h
    | cons st ss =>
      simp only [Bool.and_eq_true] at h
      exact (pss_cons (sS p st g h.1) (sB r ss g h.2)).wimp fun D σ H ⟨ρ, S, m, s, q⟩ => ⟨ρ, S, m, s, denS_mono g.g.w.n.mono p _ _ _ _ (ZOf.seq fun ρ' S' σ' H' m' e' s' q' => ⟨ρ', S', m', s', denB_mono g.g.w.n.mono r _ _ _ _ (ZOf.ext e') q'⟩) q⟩
end
end
end Wp

/-! the calculus against the hand layer: a def keeps its contract; what is left behind is forgotten -/
namespace Wp
open PySem PySem.Spec PyProof.Rows L2

/-! ### what refers to the first n things alone -/
mutual
def cloD (n : Nat) : D → Prop
  | .tup xs => cloDs n xs
  | .rol xs => cloDs n xs
  | .loc k => k < n
  | _ => True
def cloDs (n : Nat) : List D → Prop
  | [] => True
  | d :: r => cloD n d ∧ cloDs n r
end
def cloO (n : Nat) : O → Prop
  | .lst xs => cloDs n xs
  | .ins _ fs => ∀ p ∈ fs, cloD n p.2
  | .dk kvs => ∀ p ∈ kvs, cloD n p.2
  | .dt kvs => ∀ p ∈ kvs, cloD n p.2
  | .fk kvs => ∀ p ∈ kvs, cloD n p.2
  | .ft kvs => ∀ p ∈ kvs, cloD n p.2
mutual
theorem cloD.mono {n k : Nat} (h : n ≤ k) : ∀ d, cloD n d → cloD k d
  | .tup xs, q => cloDs.mono h xs q
  | .rol xs, q => cloDs.mono h xs q
  | .loc i, q => Nat.lt_of_lt_of_le q h
  | .non, _ => trivial
  | .bl _, _ => trivial
  | .int _, _ => trivial
  | .str _, _ => trivial
  | .exc _, _ => trivial
  | .key _, _ => trivial
theorem cloDs.mono {n k : Nat} (h : n ≤ k) : ∀ ds, cloDs n ds → cloDs k ds
  | [], _ => trivial
  | d :: r, q => ⟨cloD.mono h d q.1, cloDs.mono h r q.2⟩
end
theorem cloO.mono {n k : Nat} (h : n ≤ k) {o : O} (q : cloO n o) : cloO k o := by
  cases o with
  | lst xs => exact cloDs.mono h xs q
  | ins C fs => exact fun p hp => cloD.mono h _ (q p hp)
  | dk kvs => exact fun p hp => cloD.mono h _ (q p hp)
  | dt kvs => exact fun p hp => cloD.mono h _ (q p hp)
  | fk kvs => exact fun p hp => cloD.mono h _ (q p hp)
  | ft kvs => exact fun p hp => cloD.mono h _ (q p hp)
section
variable {K : PySem.W.Frag} {H : Hp} {m : List Addr} {nm : Nm} {ad : Ad}
mutual
theorem Rep.clo : ∀ {v : V} {d : D}, Rep K H m v d → cloD m.length d
  | _, _, .non => trivial
  | _, _, .bl b => trivial
  | _, _, .int i => trivial
  | _, _, .str x => trivial
  | _, _, .tup h r => Reps.clo r
  | _, _, .rol h r => Reps.clo r
  | _, _, .loc h => (List.getElem?_eq_some_iff.mp h).1
  | _, _, .key h => trivial
theorem Reps.clo : ∀ {vs : List V} {ds : List D}, Reps K H m vs ds → cloDs m.length ds
  | _, _, .nil => trivial
  | _, _, .cons h r => ⟨Rep.clo h, Reps.clo r⟩
end
mutual
theorem Rep.cut (n : Nat) : ∀ {v : V} {d : D}, Rep K H m v d → cloD n d → Rep K H (m.take n) v d
  | _, _, .non, _ => .non
  | _, _, .bl b, _ => .bl b
  | _, _, .int i, _ => .int i
  | _, _, .str x, _ => .str x
  | _, _, .tup h r, q => .tup h (Reps.cut n r q)
  | _, _, .rol h r, q => .rol h (Reps.cut n r q)
  | _, _, .loc h, q => .loc (by rw [List.getElem?_take_of_lt q]; exact h)
  | _, _, .key h, _ => .key h
theorem Reps.cut (n : Nat) : ∀ {vs : List V} {ds : List D}, Reps K H m vs ds → cloDs n ds → Reps K H (m.take n) vs ds
  | _, _, .nil, _ => .nil
  | _, _, .cons h r, q => .cons (Rep.cut n h q.1) (Reps.cut n r q.2)
end
theorem FsRep.clo {C : Nat} : ∀ {r : List (Str × V)} {s : List (Nat × D)}, FsRep nm K H m C r s → ∀ p ∈ s, cloD m.length p.2
  | _, _, .nil => fun _ h => by cases h
  | _, _, .cons a b c d => fun p hp => by
    rcases List.mem_cons.mp hp with e | h
    · rw [e]; exact c.clo
    · exact FsRep.clo d p h
theorem FsRep.cut {C : Nat} (n : Nat) : ∀ {r : List (Str × V)} {s : List (Nat × D)}, FsRep nm K H m C r s → (∀ p ∈ s, cloD n p.2) → FsRep nm K H (m.take n) C r s
  | _, _, .nil, _ => .nil
  | _, _, .cons a b c d, q => .cons a b (c.cut n (q _ List.mem_cons_self)) (FsRep.cut n d fun p hp => q p (List.mem_cons_of_mem _ hp))
theorem KReps.clo {κ : Type} : ∀ {r : List (κ × V)} {s : List (κ × D)}, KReps K H m r s → ∀ p ∈ s, cloD m.length p.2
  | _, _, .nil => fun _ h => by cases h
  | _, _, .cons c d => fun p hp => by
    rcases List.mem_cons.mp hp with e | h
    · rw [e]; exact c.clo
    · exact KReps.clo d p h
theorem KReps.cut {κ : Type} (n : Nat) : ∀ {r : List (κ × V)} {s : List (κ × D)}, KReps K H m r s → (∀ p ∈ s, cloD n p.2) → KReps K H (m.take n) r s
  | _, _, .nil, _ => .nil
  | _, _, .cons c d, q => .cons (c.cut n (q _ List.mem_cons_self)) (KReps.cut n d fun p hp => q p (List.mem_cons_of_mem _ hp))
theorem RepO.clo {a : Addr} {o : O} (h : RepO nm ad K H m a o) : cloO m.length o := by
  cases o with
  | lst xs =>
    obtain ⟨vs, _, r⟩ := h
    exact r.clo
  | ins C fs =>
    obtain ⟨dx, fvs, _, r⟩ := h
    exact r.clo
  | dk kvs =>
    obtain ⟨r, _, h⟩ := h
    exact h.clo
  | dt kvs =>
    obtain ⟨r, _, h⟩ := h
    exact h.clo
  | fk kvs =>
    obtain ⟨r, _, h⟩ := h
    exact h.clo
  | ft kvs =>
    obtain ⟨r, _, h⟩ := h
    exact h.clo
theorem RepO.cut (n : Nat) {a : Addr} {o : O} (h : RepO nm ad K H m a o) (q : cloO n o) : RepO nm ad K H (m.take n) a o := by
  cases o with
  | lst xs =>
    obtain ⟨vs, h1, r⟩ := h
    exact ⟨vs, h1, r.cut n q⟩
  | ins C fs =>
    obtain ⟨dx, fvs, h1, r⟩ := h
    exact ⟨dx, fvs, h1, r.cut n q⟩
  | dk kvs =>
    obtain ⟨r, h1, h2⟩ := h
    exact ⟨r, h1, h2.cut n q⟩
  | dt kvs =>
    obtain ⟨r, h1, h2⟩ := h
    exact ⟨r, h1, h2.cut n q⟩
  | fk kvs =>
    obtain ⟨r, h1, h2⟩ := h
    exact ⟨r, h1, h2.cut n q⟩
  | ft kvs =>
    obtain ⟨r, h1, h2⟩ := h
    exact ⟨r, h1, h2.cut n q⟩
end
/-- the first n things may stand alone -/
structure GcOk (S S' : Sto) (n : Nat) : Prop where
  le : S.length ≤ n
  le' : n ≤ S'.length
  obj : ∀ (i : Nat) o, i < n → S'[i]? = some o → S[i]? = some o ∨ cloO n o
theorem GcOk.app {S j : Sto} : GcOk S (S ++ j) S.length := ⟨Nat.le_refl _, by simp, fun i o hi h => .inl (by rw [List.getElem?_append_left hi] at h; exact h)⟩
def Fin' (S : Sto) (Q : QD) : QD := fun d S' => Q d S' ∨ ∃ n, GcOk S S' n ∧ cloD n d ∧ Q d (S'.take n)
def FinX (S : Sto) (Y : XD) : XD := fun c S' => Y c S' ∨ ∃ n, GcOk S S' n ∧ Y c (S'.take n)
theorem fin_now {S S' : Sto} {Q : QD} {d : D} (h : Q d S') : Fin' S Q d S' := .inl h
theorem fin_junk {S j : Sto} {Q : QD} {d : D} (h : Q d S) (hd : cloD S.length d) : Fin' S Q d (S ++ j) := .inr ⟨S.length, GcOk.app, hd, by rw [List.take_left']; exact h; rfl⟩
def endsOf (S : Sto) (Q : QD) (Y : XD) : Z where
  nx := fun _ S' => Fin' S Q .non S'
  rt := Fin' S Q
  bk := fun _ _ => False
  ct := fun _ _ => False
  ex := fun c _ S' => FinX S Y c S'
def startE (n : Nat) (ds : List D) : Env := ds.map some ++ List.replicate (n - ds.length) none
section
variable {K : PySem.W.Frag} {H H' : Hp} {m m' : List Addr} {nm : Nm} {ad : Ad} {S S' : Sto}
theorem Sim.cut (s0 : Sim nm ad K H m S) (s : Sim nm ad K H' m' S') {n : Nat} (g : GcOk S S' n) : Sim nm ad K H' (m'.take n) (S'.take n) where
  len := by rw [List.length_take, List.length_take, s.len]
  nd := s.nd.sublist (List.take_sublist _ _)
  obj := fun i o a h1 h2 => by
    have hi : i < n := by
      have := (List.getElem?_eq_some_iff.mp h1).1
      rw [List.length_take] at this
      omega
    rw [List.getElem?_take_of_lt hi] at h1 h2
    have r := s.obj i o a h1 h2
    refine r.cut n ?_
    rcases g.obj i o hi h1 with h | h
    · have hl : i < m.length := by rw [s0.len]; exact (List.getElem?_eq_some_iff.mp h).1
      have q := (s0.obj i o _ h (List.getElem?_eq_getElem hl)).clo
      exact cloO.mono (by rw [s0.len]; exact g.le) q
    · exact h
theorem Ext.cut (e : Ext H m H' m') {n : Nat} (h : m.length ≤ n) : Ext H m H' (m'.take n) :=
  ⟨e.tup, e.frz, fun i a q => by
    have hi : i < n := Nat.lt_of_lt_of_le (List.getElem?_eq_some_iff.mp q).1 h
    rw [List.getElem?_take_of_lt hi]
    exact e.pre i a q⟩
theorem start_get {N : List Str} {vs : List V} {i : Nat} {v : V} (h : vs[i]? = some v) : (L2.start N vs)[i]? = some (some v) := by
  unfold L2.start
  have hi := (List.getElem?_eq_some_iff.mp h).1
  rw [List.getElem?_append_left (by simpa using hi), List.getElem?_map, h]
  rfl
theorem startE_get {n : Nat} {ds : List D} {i : Nat} {d : D} (h : (startE n ds)[i]? = some (some d)) : ds[i]? = some d := by
  unfold startE at h
  by_cases hi : i < ds.length
  · rw [List.getElem?_append_left (by simpa using hi), List.getElem?_map] at h
    cases e : ds[i]? with
    | none => rw [e] at h; cases h
    | some x => rw [e] at h; cases h; rfl
  · rw [List.getElem?_append_right (by simpa using hi), List.getElem?_replicate] at h
    split at h <;> cases h
end
section
variable {P : Program} {w : World} {K : PySem.W.Frag} {mg : Str → Option Value} {base : Heap} {nm : Nm} {ad : Ad} {Γ : Tab} {k : Nat}
theorem fun_toD {x qual : Str} {st : Stmt} {f : Addr} {fd : FuncData} (F : Fun K x qual st f fd) : FunD K x qual (defArgs st) (defBody st) (defScope st) [] [] f fd := by
  obtain ⟨oc, od, kV, doc, pm, an, cdv, ct, osl, e, lk, hcd⟩ := F.ex
  exact ⟨⟨oc, od, .none, kV, doc, pm, an, cdv, ct, osl, e, lk, hcd, .inl ⟨rfl, rfl⟩, .inl rfl⟩, F.kp⟩
theorem def_ok (hw : Wo P w K mg base nm ad Γ k) (hx : Wx K mg nm ad) {f : Nat} {x qual : Str} {st : Stmt} {fd : FuncData} {N ps : List Str} {body : Bl} {dvs : List V} {kws : List (Str × V)} (F : FunD K x qual (defArgs st) (defBody st) (defScope st) dvs kws (ad.fn f) fd) (S : FnScope N ps (defScope st))
    (hc : chkB nm Γ.init body ⟨N, defScope st, fun _ => true, k, true, []⟩ (defBody st) = true)
    (hb : ∀ ds S Q Y, Γ.ctr f ds S Q Y → ds.length = ps.length ∧ denB Γ body (startE N.length ds) S (endsOf S Q Y)) : FnOk P w K mg base (L2.CX P w) (k + 1) (ad.fn f) fd ps (spOf nm ad K (Γ.ctr f)) := by
  refine F.ok (CX := L2.CX P w) S (fun vs H Q E ⟨ds, S0, m, s, r, h⟩ => by rw [r.length]; exact (hb _ _ _ _ h).1) fun cdv A outer s H vs Q E hr ⟨ds, S0, m, sim, r, h⟩ => ?_
  obtain ⟨hl, q⟩ := hb _ _ _ _ h
  let X : Cx := cxOf (L2.CX P w) P w K mg base N qual (defScope st) (ad.fn f) cdv A outer s H E
  let Xc : Nat → Env → Sto → Prop := fun c _ S' => FinX S0 (fun e S' => ∀ H' m', Ext H m H' m' → Sim nm ad K H' m' S' → E (.ref (ad.ex e)) none H') c S'
  have tk : Takes X (WOf nm ad X.K H m ([], []) Xc) := Takes.imp (takes_of rfl rfl rfl rfl) fun cls d σ H' ⟨c, ρ, S', m', e1, e2, sa, z⟩ => by
    subst e1; subst e2
    rcases z with z | ⟨n, g, z⟩
    · exact z H' m' sa.anc sa.sim
    · exact z H' _ (sa.anc.cut (by rw [sim.len]; exact g.le)) (sim.cut sa.sim g)
  have g : Cs X ⟨N, defScope st, fun _ => true, k, true, []⟩ nm ad Γ H m [] Xc := ⟨⟨hw, ⟨rfl, S.nd, rfl, fun _ _ => rfl, fun _ => ⟨rfl, hr⟩⟩, tk, fun i hi => by cases hi⟩, hx, passes_of rfl, S.kind, rfl, rfl⟩
  have le : Z.Le (endsOf S0 (Post nm ad K H m Q) fun e S' => ∀ H' m', Ext H m H' m' → Sim nm ad K H' m' S' → E (.ref (ad.ex e)) none H') (ZOf nm ad X.K H m ([], []) Xc { nx := fun _ H' => Q .non H', rt := Q } H m) := by
    refine ⟨fun ρ S' z σ' H' m' e s' => ?_, fun d S' z v H' m' e s' rv => ?_, fun _ _ z => False.elim z, fun _ _ z => False.elim z, fun c ρ S' z => z⟩
    · have z : Fin' S0 (Post nm ad K H m Q) .non S' := z
      rcases z with z | ⟨n, gc, _, z⟩
      · exact z _ _ _ e s'.sim .non
      · exact z _ _ _ (e.cut (by rw [sim.len]; exact gc.le)) (sim.cut s'.sim gc) .non
    · have z : Fin' S0 (Post nm ad K H m Q) d S' := z
      rcases z with z | ⟨n, gc, hd, z⟩
      · exact z _ _ _ e s' rv
      · exact z _ _ _ (e.cut (by rw [sim.len]; exact gc.le)) (sim.cut s' gc) (rv.cut n hd)
  refine ⟨_, sB body (defBody st) g hc, startE N.length ds, S0, m, ⟨sim, ?_, fun i d hi _ => ?_, .refl, fun p hp => by cases hp⟩, denB_mono hw.n.mono body _ _ _ _ le q⟩
  · unfold startE L2.start
    rw [List.length_append, List.length_append, List.length_map, List.length_map, List.length_replicate, List.length_replicate, r.length]
  · obtain ⟨v, h1, h2⟩ := r.get (startE_get hi)
    exact ⟨v, start_get h1, h2⟩
/-- a def that takes the exception of a suite -/
theorem defx_ok (hw : Wo P w K mg base nm ad Γ k) (hx : Wx K mg nm ad) {f : Nat} {x qual : Str} {st : Stmt} {fd : FuncData} {N ps : List Str} {body : Bl} (F : FunD K x qual (defArgs st) (defBody st) (defScope st) [] [] (ad.fn f) fd) (S : FnScope N ps (defScope st)) (h1 : ps.length = 1) (hN : 1 ≤ N.length) (hlv : nm.lv f = k + 1)
    (bd : Binds K fd ps []) (hc : chkB nm Γ.init body ⟨N, defScope st, fun _ => true, 0, false, [0]⟩ (defBody st) = true)
    (hb : ∀ j S Q, Γ.ctr f [.exc j] S Q (fun _ _ => False) → denB Γ body (startE N.length [.exc j]) S (endsOf S Q fun _ _ => False)) : FnX P w K mg base nm ad Γ f := by
  obtain ⟨oc, od, dV, kV, doc, pm, an, cdv, ct, osl, rfl, lk, hcd, _, _⟩ := F.ex
  refine ⟨⟨_, ps, bd, h1, fun A outer s H args Q p j hr hpin hec hz hf e0 bnd ⟨S0, m, sim, q⟩ => ?_⟩, F.kp⟩
  rw [hlv] at hr
  have q := hb _ _ _ q
  have inK : K.In s.heap := e0.mod.kin.keeps fun b o e => (e0.bs b o e).1
  have noL : s.heap.NoLimit := e0.mod.nolimit.keeps fun b o e => (e0.bs b o e).1
  have kinds : ∀ y ∈ ps.zip [Value.ref p.1], (defScope st).names.lookup y.1 = some .local ∨ ((defScope st).names.lookup y.1 = some .cell ∧ ((cellsFrom (s.heap.objs.size + 1) (defScope st).names []).lookup y.1).isSome = true) := fun y hy => by
    have hy1 : y.1 ∈ ps := (List.of_mem_zip (a := y.1) (b := y.2) hy).1
    exact (S.par y.1 hy1).imp (fun z => z) fun z => ⟨z, PySem.W.cellsFrom_some _ _ _ (.inl z)⟩
  refine codeAny_call_function hr.depth (inK _ _ lk) rfl S.co S.gen rfl (PySem.W.codeRec_of inK hcd) (bnd _ _ _ _ (wpAny_newFunctionEnv_cells S.kind kinds fun env he s1 ic => ?_))
  subst he
  refine ⟨noL.keeps ic.toInCall.keep, codeAny_func ?_⟩
  let X : Cx := L2H.cxH (L2.CX P w) P w K mg base N qual (defScope st) (ad.fn f) cdv A outer s H (fun _ _ _ => False) p
  have vr : Vals [V.ref p.1] [Value.ref p.1] := .cons rfl .nil
  have I : Inv X [] (L2.start N [V.ref p.1]) H s1 := L2H.inv_startH S hpin e0 h1.symm vr ic
  have hpn : (p.1, p.2) ∈ X.pn := List.mem_singleton.mpr rfl
  have g : Cs X ⟨N, defScope st, fun _ => true, 0, false, [0]⟩ nm ad Γ H m [(0, p.1, j)] (fun _ _ _ => False) := by
    refine ⟨⟨⟨hw.n, fun f' h0 hl => absurd (Nat.le_zero.mp hl) h0, fun f' _ h0 hl => absurd (Nat.le_zero.mp hl) h0⟩, ⟨rfl, S.nd, rfl, fun _ _ => rfl, fun z => by cases z⟩, ?_, ?_⟩, hx, passes_of rfl, S.kind, rfl, rfl⟩
    · intro u s' ⟨_, _, _, _, _, _, _, _, _, _, _, _, _, _, _, _, w'⟩
      obtain ⟨_, _, _, _, _, _, _, z⟩ := w'
      exact z.elim
    · intro i hi
      cases List.mem_singleton.mp hi
      exact ⟨p.1, j, List.mem_singleton.mpr rfl, call_isXp hpn hec hz hf, fun f' _ h0 hl => absurd (Nat.le_zero.mp hl) h0⟩
  have le : Z.Le (endsOf S0 (Post nm ad K H m Q) fun _ _ => False) (ZOf nm ad X.K H m ([0], [(0, p.1, j)]) (fun _ _ _ => False) { nx := fun _ H' => Q .non H', rt := Q } H m) := by
    refine ⟨fun ρ S' z σ' H' m' e s' => ?_, fun d S' z v H' m' e s' rv => ?_, fun _ _ z => False.elim z, fun _ _ z => False.elim z, fun c ρ S' z => ?_⟩
    · have z : Fin' S0 (Post nm ad K H m Q) .non S' := z
      rcases z with z | ⟨n, gc, _, z⟩
      · exact z _ _ _ e s'.sim .non
      · exact z _ _ _ (e.cut (by rw [sim.len]; exact gc.le)) (sim.cut s'.sim gc) .non
    · have z : Fin' S0 (Post nm ad K H m Q) d S' := z
      rcases z with z | ⟨n, gc, hd, z⟩
      · exact z _ _ _ e s' rv
      · exact z _ _ _ (e.cut (by rw [sim.len]; exact gc.le)) (sim.cut s' gc) (rv.cut n hd)
    · rcases z with z | ⟨n, gc, z⟩ <;> exact z.elim
  have sa : SimA nm ad K H m ([0], [(0, p.1, j)]) (L2.start N [V.ref p.1]) H (startE N.length [.exc j]) S0 m := by
    refine ⟨sim, ?_, fun i d hi hn => ?_, .refl, fun r hr' => ?_⟩
    · unfold startE L2.start
      rw [List.length_append, List.length_append, List.length_map, List.length_map, List.length_replicate, List.length_replicate]
      rfl
    · exfalso
      have h2 := (List.getElem?_eq_some_iff.mp (startE_get hi)).1
      have h3 : i = 0 := by
        have : [D.exc j].length = 1 := rfl
        omega
      exact hn (List.mem_singleton.mpr h3)
    · cases List.mem_singleton.mp hr'
      exact ⟨List.mem_singleton.mpr rfl, start_get rfl, rfl⟩
  refine wpAny_mono ((sB body (defBody st) g hc).run [] s1 _ H { nx := fun _ H' => Q .non H', rt := Q } I ⟨_, S0, m, sa, denB_mono hw.n.mono body _ _ _ _ le q⟩) (fun fl s' out => ?_) fun e s' hs => hs
  have fin : ∀ {σ' : L2.St} {H' : Hp} {v : V} {u : Value}, Inv X [] σ' H' s' → RelV v u → Q v H' → CE outer P w H s Q u s' := fun {σ' H' v u} J rv q' => ⟨v, H', J.os, J.bare, J.base, J.hok, rv, q'⟩
  match fl, out with
  | .ret u, ⟨v, σ', H', J, rv, q'⟩ => exact fin J rv q'
  | .next, ⟨σ', H', J, q'⟩ => exact fin (v := V.non) (u := Value.none) J rfl q'
  | .brk, ⟨_, _, _, q'⟩ => exact q'.elim
  | .cont, ⟨_, _, _, q'⟩ => exact q'.elim
theorem wo_all (n : Wn K mg nm ad Γ) (h : ∀ k f, nm.lv f = k + 1 → Wo P w K mg base nm ad Γ k → FnF P w K mg base nm ad Γ f) (hx : ∀ k f, nm.lv f = k + 1 → nm.isx f = true → Wo P w K mg base nm ad Γ k → FnX P w K mg base nm ad Γ f) : ∀ k, Wo P w K mg base nm ad Γ k
  | 0 => ⟨n, fun f h0 hl => absurd (Nat.le_zero.mp hl) h0, fun f _ h0 hl => absurd (Nat.le_zero.mp hl) h0⟩
  | k + 1 => ⟨n, fun f h0 hl => by
    by_cases e : nm.lv f = k + 1
    · exact h k f e (wo_all n h hx k)
    · exact (wo_all n h hx k).fn f h0 (by omega), fun f hi h0 hl => by
    by_cases e : nm.lv f = k + 1
    · exact hx k f e hi (wo_all n h hx k)
    · exact (wo_all n h hx k).fx f hi h0 (by omega)⟩
/-- a def without defaults -/
theorem fnf_of (hw : Wo P w K mg base nm ad Γ k) (hx : Wx K mg nm ad) {f : Nat} {x qual : Str} {st : Stmt} {fd : FuncData} {N ps : List Str} {body : Bl} {dvs : List V} {kws : List (Str × V)} (F : FunD K x qual (defArgs st) (defBody st) (defScope st) dvs kws (ad.fn f) fd) (S : FnScope N ps (defScope st)) (hlv : nm.lv f = k + 1)
    (hc : chkB nm Γ.init body ⟨N, defScope st, fun _ => true, k, true, []⟩ (defBody st) = true)
    (hb : ∀ ds S Q Y, Γ.ctr f ds S Q Y → ds.length = ps.length ∧ denB Γ body (startE N.length ds) S (endsOf S Q Y))
    (bi : ∀ dn, nm.dok f dn = true → ∃ dvs dus, Binds K fd ps dus ∧ Vals dvs dus ∧ ∀ H m, Reps K H m dvs (Γ.dfl f dn)) : FnF P w K mg base nm ad Γ f :=
  ⟨⟨fd, ps, by rw [hlv]; exact def_ok hw hx F S hc hb, bi⟩, F.kp⟩
/-- a def that is not to be called -/
theorem fnf_no {f : Nat} {x qual : Str} {st : Stmt} {fd : FuncData} {N ps : List Str} {dvs : List V} {kws : List (Str × V)} (F : FunD K x qual (defArgs st) (defBody st) (defScope st) dvs kws (ad.fn f) fd) (S : FnScope N ps (defScope st)) (hlv : nm.lv f = k + 1)
    (hc : Γ.ctr f = fun _ _ _ _ => False)
    (bi : ∀ dn, nm.dok f dn = true → ∃ dvs dus, Binds K fd ps dus ∧ Vals dvs dus ∧ ∀ H m, Reps K H m dvs (Γ.dfl f dn)) : FnF P w K mg base nm ad Γ f :=
  ⟨⟨fd, ps, by
    rw [hlv]
    refine F.ok (CX := L2.CX P w) S (fun vs H Q E ⟨ds, S0, m, s, r, h⟩ => ?_) fun cdv A outer s H vs Q E hr ⟨ds, S0, m, sim, r, h⟩ => ?_
    · rw [hc] at h; exact h.elim
    · rw [hc] at h; exact h.elim, bi⟩, F.kp⟩
/-- a def that is called with a suite's exception alone -/
theorem fnf_exc {f : Nat} {x qual : Str} {st : Stmt} {fd : FuncData} {N ps : List Str} {dvs : List V} {kws : List (Str × V)} (F : FunD K x qual (defArgs st) (defBody st) (defScope st) dvs kws (ad.fn f) fd) (S : FnScope N ps (defScope st)) (hlv : nm.lv f = k + 1)
    (hc : ∀ ds S Q Y, Γ.ctr f ds S Q Y → ∃ j, ds = [.exc j])
    (bi : ∀ dn, nm.dok f dn = true → ∃ dvs dus, Binds K fd ps dus ∧ Vals dvs dus ∧ ∀ H m, Reps K H m dvs (Γ.dfl f dn)) : FnF P w K mg base nm ad Γ f := by
  have no : ∀ {H : Hp} {m : List Addr} {vs : List V} {j : Nat}, ¬ Reps K H m vs [.exc j] := fun r => by
    cases r with
    | cons r1 _ => cases r1
  refine ⟨⟨fd, ps, by
    rw [hlv]
    refine F.ok (CX := L2.CX P w) S (fun vs H Q E ⟨ds, S0, m, s, r, h⟩ => ?_) fun cdv A outer s H vs Q E hr ⟨ds, S0, m, sim, r, h⟩ => ?_
    · obtain ⟨j, e⟩ := hc _ _ _ _ h
      subst e
      exact (no r).elim
    · obtain ⟨j, e⟩ := hc _ _ _ _ h
      subst e
      exact (no r).elim, bi⟩, F.kp⟩
/-- .. its arguments bind as they stand -/
theorem bi_of {f : Nat} {fd : FuncData} {ps : List Str} (b : Binds K fd ps []) (hd : ∀ dn, Γ.dfl f dn = []) : ∀ dn, nm.dok f dn = true → ∃ dvs dus, Binds K fd ps dus ∧ Vals dvs dus ∧ ∀ H m, Reps K H m dvs (Γ.dfl f dn) :=
  fun dn _ => ⟨[], [], b, .nil, fun H m => by rw [hd]; exact .nil⟩
/-- .. with defaults: those behind the first ones fill up -/
theorem bi_dfl {f : Nat} {x qual : Str} {st : Stmt} {fd : FuncData} {ps : List Str} {dvs : List V} {dds : List D} {n : Nat} (F : FunD K x qual (defArgs st) (defBody st) (defScope st) dvs [] (ad.fn f) fd) (hd : dvs ≠ []) (hl : dvs.length = n) (hn : n ≤ ps.length)
    (hr : ∀ H m, Reps K H m dvs dds) (hdf : ∀ dn, Γ.dfl f dn = dds.drop (n - dn))
    (h : ∀ j, j ≤ n → ∀ (T : Addr) (kV doc pm : Value) (an : Option Addr) (cdv ct : Value) (us its : List Value), us.length = ps.length - n + j → its.length = n →
      ∃ k, bindArgs (PySem.W.fnOf x qual (defArgs st) (defBody st) (defScope st) (.ref T) kV doc pm an cdv ct) ⟨us, []⟩ = seqItems? (.ref T) >>= k ∧ k (some its.toArray) = pure (ps.zip (us ++ its.drop j))) :
    ∀ dn, nm.dok f dn = true → ∃ dvs dus, Binds K fd ps dus ∧ Vals dvs dus ∧ ∀ H m, Reps K H m dvs (Γ.dfl f dn) := fun dn _ => by
  obtain ⟨ds, h1, h2⟩ := F.binds1 (ps.length - n + (n - dn)) (n - dn) hd (by omega) (fun T kV doc pm an cdv ct us its l1 l2 => h (n - dn) (Nat.sub_le _ _) T kV doc pm an cdv ct us its l1 (l2.trans hl))
  exact ⟨_, ds, h2, h1, fun H m => by rw [hdf]; exact (hr H m).drop _⟩
end

/-! ### contracts by what goes in and what comes out -/
structure Spec where
  pre : List D → Sto → Prop
  post : List D → Sto → D → Sto → Prop
  exc : List D → Sto → Nat → Sto → Prop := fun _ _ _ _ => False
def Spec.ctr (s : Spec) : Ctr := fun ds S Q Y => s.pre ds S ∧ (∀ d S', s.post ds S d S' → Q d S') ∧ ∀ e S', s.exc ds S e S' → Y e S'
theorem Spec.mono (s : Spec) : MonC s.ctr := fun ds S Q Q' Y Y' hq hy ⟨a, b, c⟩ => ⟨a, fun d S' p => hq _ _ (b d S' p), fun e S' p => hy _ _ (c e S' p)⟩

/-! ### the law -/
def lawSpec : Spec where
  pre := fun ds S => ∃ ns : List Int, ds = [.rol (ns.map .int)] ∧ ns.length ≤ 63 ∧ S = []
  post := fun _ _ d _ => d = .bl true
theorem reps_ints {K : PySem.W.Frag} {H : Hp} {m : List Addr} : ∀ ns : List Int, Reps K H m (ns.map V.int) (ns.map D.int)
  | [] => .nil
  | n :: r => .cons (.int n) (reps_ints r)
theorem law_sp {nm : Nm} {ad : Ad} {K : PySem.W.Frag} {H : Hp} {a : Addr} {ns : List Int} (hl : ns.length ≤ 63) (hO : Only H) (hS : SqL K H a (ns.map V.int)) :
    spOf nm ad K lawSpec.ctr [.ref a] H (fun v _ => v = .bl true) fun _ _ _ => False := by
  refine ⟨[.rol (ns.map .int)], [], [], ⟨rfl, List.nodup_nil, fun n o a h => by simp at h⟩, .cons (.rol (vs := ns.map V.int) ?_ (reps_ints ns)) .nil, ⟨ns, rfl, hl, rfl⟩, fun d S' e => ?_, fun _ _ h => h.elim⟩
  · rcases hS with (h | ⟨o, h⟩) | h
    · rcases hO a with z | ⟨o, xs, z⟩
      · rw [z] at h; cases h
      · rw [z] at h; cases h
    · exact .inl ⟨o, h⟩
    · exact .inr h
  · have e' : d = .bl true := e
    subst e'
    exact fun x H' m' _ _ r => by cases r; rfl
end Wp

/-! plain arithmetic for the laws: sizes, the greatest common divisor, fractions in lowest terms as rational numbers -/
namespace Wp
open PySem PySem.Spec PyProof.Rows L2

/-! ### sizes -/
def Sz (n : Nat) (i : Int) : Prop := i.natAbs < 2 ^ n
theorem Sz.mono {m n : Nat} {i : Int} (h : Sz m i) (q : m ≤ n) : Sz n i := Nat.lt_of_lt_of_le h (Nat.pow_le_pow_right (by decide) q)
theorem Sz.mul {m n : Nat} {i j : Int} (h : Sz m i) (q : Sz n j) : Sz (m + n) (i * j) := by
  unfold Sz at *
  rw [Int.natAbs_mul, Nat.pow_add]
  exact Nat.mul_lt_mul'' h q
theorem Sz.add {m n : Nat} {i j : Int} (h : Sz m i) (q : Sz n j) : Sz (m + n + 1) (i + j) := by
  have h := h.mono (Nat.le_add_right m n)
  have q := q.mono (Nat.le_add_left n m)
  unfold Sz at *
  have e := Int.natAbs_add_le i j
  rw [Nat.pow_succ]
  omega
theorem Sz.neg {m : Nat} {i : Int} (h : Sz m i) : Sz m (-i) := by
  unfold Sz at *
  rwa [Int.natAbs_neg]
theorem Sz.sub {m n : Nat} {i j : Int} (h : Sz m i) (q : Sz n j) : Sz (m + n + 1) (i - j) := by
  rw [Int.sub_eq_add_neg]
  exact h.add q.neg
theorem Sz.of_lt {m : Nat} {i : Int} (h : 0 ≤ i) (q : i < 2 ^ m) : Sz m i := by
  unfold Sz
  have e : ((2 ^ m : Nat) : Int) = 2 ^ m := by norm_cast
  omega
theorem sz_mul {i j : Int} {a b : Nat} (ha : Sz a i) (hb : Sz b j) (h : a + b ≤ 134217728) : IntMulOk i j := (mulx_ok ha hb h).ok
theorem sz_div {i j : Int} {n : Nat} (h0 : j ≠ 0) (h : Sz n j) (hn : n ≤ 9000) : DivOk i j :=
  ⟨h0, PyProof.noPylong_of_log2 ((Nat.log2_lt (by omega)).mpr (h.mono hn))⟩
theorem div_lit {i j : Int} (h0 : j ≠ 0) (h : j.natAbs < 1073741824) : DivOk i j := ⟨h0, PyProof.noPylong_small h⟩
theorem mul_litR {i j : Int} (h : Sz 64 j) : IntMulOk i j := IntMulOk.of_right (PyProof.Rows.intBits_le h)
theorem mul_litL {i j : Int} (h : Sz 64 i) : IntMulOk i j := IntMulOk.of_left (PyProof.Rows.intBits_le h)

/-! ### the greatest common divisor by turns -/
theorem gcd_turn (x y : Int) : Int.gcd y (x.fmod y) = Int.gcd x y := by
  rw [Int.fmod_def, Int.gcd_sub_mul_left_right, Int.gcd_comm]
theorem fmod_less (x : Int) {y : Int} (h : y ≠ 0) : (x.fmod y).natAbs < y.natAbs := by
  rcases Int.lt_or_gt_of_ne h with h | h
  · rw [Int.fmod_eq_emod]
    have a := Int.emod_nonneg x (Int.ne_of_lt h)
    have b := Int.emod_lt x (Int.ne_of_lt h)
    split
    · omega
    · rename_i q
      have : x % y ≠ 0 := fun e => q (.inr (Int.dvd_of_emod_eq_zero e))
      omega
  · have a := Int.fmod_nonneg_of_pos x h
    have b := Int.fmod_lt_of_pos x h
    omega

/-! ### fractions in lowest terms -/
def qD (q : Rat) : D := .tup [.int q.num, .int q.den]
theorem qD_inj {p q : Rat} : qD p = qD q ↔ p = q := by
  constructor
  · intro h
    have h : D.tup [.int p.num, .int p.den] = D.tup [.int q.num, .int q.den] := h
    injection h with h
    injection h with h1 h
    injection h with h2 h
    injection h1 with h1
    injection h2 with h2
    exact Rat.ext h1 (Int.ofNat.inj h2)
  · exact fun h => h ▸ rfl
theorem den_ne (q : Rat) : (q.den : Int) ≠ 0 := by
  have := q.den_nz
  omega
theorem den_pos (q : Rat) : 0 < (q.den : Int) := by
  have := q.den_nz
  omega
theorem div_up (t b : Int) (h : 0 < b) : t.fdiv (Int.gcd t b) = (Rat.divInt t b).num ∧ b.fdiv (Int.gcd t b) = (Rat.divInt t b).den := by
  have g : 0 ≤ (Int.gcd t b : Int) := Int.natCast_nonneg _
  rw [Int.fdiv_eq_ediv_of_nonneg _ g, Int.fdiv_eq_ediv_of_nonneg _ g, Rat.num_divInt, Rat.den_divInt, Int.sign_eq_one_of_pos h, Int.one_mul, Int.gcd_comm b t, if_neg (Int.ne_of_gt h)]
  refine ⟨rfl, ?_⟩
  have e : (b.natAbs : Int) = b := Int.natAbs_of_nonneg (Int.le_of_lt h)
  rw [Int.natCast_ediv, e]
theorem div_down (t b : Int) (h : b < 0) : t.fdiv (-(Int.gcd t b : Int)) = (Rat.divInt t b).num ∧ b.fdiv (-(Int.gcd t b : Int)) = (Rat.divInt t b).den := by
  have e := div_up (-t) (-b) (by omega)
  rw [Rat.neg_divInt_neg, Int.gcd_neg, Int.neg_gcd] at e
  have g0 : (Int.gcd t b : Int) ≠ 0 := by
    intro z
    have := Int.gcd_eq_zero_iff.mp (Int.ofNat.inj z)
    omega
  have d1 : (Int.gcd t b : Int) ∣ t := Int.gcd_dvd_left ..
  have d2 : (Int.gcd t b : Int) ∣ b := Int.gcd_dvd_right ..
  have f1 : (-t).fdiv (Int.gcd t b) = t.fdiv (-(Int.gcd t b : Int)) := by
    rw [Int.fdiv_eq_ediv_of_dvd (Int.dvd_neg.mpr d1), Int.fdiv_eq_ediv_of_dvd (Int.neg_dvd.mpr d1), Int.ediv_neg, Int.neg_ediv_of_dvd d1]
  have f2 : (-b).fdiv (Int.gcd t b) = b.fdiv (-(Int.gcd t b : Int)) := by
    rw [Int.fdiv_eq_ediv_of_dvd (Int.dvd_neg.mpr d2), Int.fdiv_eq_ediv_of_dvd (Int.neg_dvd.mpr d2), Int.ediv_neg, Int.neg_ediv_of_dvd d2]
  rw [f1, f2] at e
  exact e
theorem gcd_ne {t b : Int} (h : b ≠ 0) : (Int.gcd t b : Int) ≠ 0 := by
  intro z
  have := Int.gcd_eq_zero_iff.mp (Int.ofNat.inj z)
  omega
theorem gcd_sz {n : Nat} {t b : Int} (h : b ≠ 0) (q : Sz n b) : Sz n (Int.gcd t b : Int) := by
  unfold Sz at *
  have := Nat.le_of_dvd (by omega) (Nat.gcd_dvd_right t.natAbs b.natAbs)
  have e : (Int.gcd t b : Int).natAbs = Nat.gcd t.natAbs b.natAbs := rfl
  omega

/-! ### sizes of fractions -/
def Qs (n : Nat) (q : Rat) : Prop := q.num.natAbs < 2 ^ n ∧ q.den < 2 ^ n
theorem Qs.mono {m n : Nat} {q : Rat} (h : Qs m q) (l : m ≤ n) : Qs n q := by
  have := Nat.pow_le_pow_right (n := 2) (by decide) l
  exact ⟨Nat.lt_of_lt_of_le h.1 this, Nat.lt_of_lt_of_le h.2 this⟩
theorem Qs.num {n : Nat} {q : Rat} (h : Qs n q) : Sz n q.num := h.1
theorem Qs.den {n : Nat} {q : Rat} (h : Qs n q) : Sz n (q.den : Int) := h.2
theorem qs_div {n : Nat} {a b : Int} (h0 : b ≠ 0) (ha : Sz n a) (hb : Sz n b) : Qs n (Rat.divInt a b) := by
  unfold Qs Sz at *
  rw [Rat.num_divInt, Rat.den_divInt, if_neg h0]
  constructor
  · refine Nat.lt_of_le_of_lt ?_ ha
    refine Nat.le_trans (Int.natAbs_ediv_le_natAbs _ _) ?_
    rw [Int.natAbs_mul, Int.natAbs_sign_of_ne_zero h0, Nat.one_mul]
    exact Nat.le_refl _
  · exact Nat.lt_of_le_of_lt (Nat.div_le_self _ _) hb
theorem plus_as (p q : Rat) : Rat.divInt (p.num * q.den + q.num * p.den) (p.den * q.den) = p + q := by
  have := Rat.divInt_add_divInt p.num q.num (den_ne p) (den_ne q)
  rw [Rat.num_divInt_den, Rat.num_divInt_den] at this
  exact this.symm
theorem minus_as (p q : Rat) : Rat.divInt (p.num * q.den - q.num * p.den) (p.den * q.den) = p - q := by
  have := Rat.divInt_sub_divInt p.num q.num (den_ne p) (den_ne q)
  rw [Rat.num_divInt_den, Rat.num_divInt_den] at this
  exact this.symm
theorem times_as (p q : Rat) : Rat.divInt (p.num * q.num) (p.den * q.den) = p * q := by
  have := Rat.divInt_mul_divInt (d₁ := p.den) (d₂ := q.den) p.num q.num
  rw [Rat.num_divInt_den, Rat.num_divInt_den] at this
  exact this.symm
theorem Qs.add {m n : Nat} {p q : Rat} (h : Qs m p) (k : Qs n q) : Qs (m + n + (m + n) + 1) (p + q) := by
  rw [← plus_as]
  refine qs_div (Int.mul_ne_zero (den_ne p) (den_ne q)) (((h.num.mul k.den).add (k.num.mul h.den)).mono (by omega)) ((h.den.mul k.den).mono (by omega))
theorem Qs.sub {m n : Nat} {p q : Rat} (h : Qs m p) (k : Qs n q) : Qs (m + n + (m + n) + 1) (p - q) := by
  rw [← minus_as]
  refine qs_div (Int.mul_ne_zero (den_ne p) (den_ne q)) (((h.num.mul k.den).sub (k.num.mul h.den)).mono (by omega)) ((h.den.mul k.den).mono (by omega))
theorem Qs.mul {m n : Nat} {p q : Rat} (h : Qs m p) (k : Qs n q) : Qs (m + n) (p * q) := by
  rw [← times_as]
  exact qs_div (Int.mul_ne_zero (den_ne p) (den_ne q)) (h.num.mul k.num) (h.den.mul k.den)
theorem Qs.neg {m : Nat} {p : Rat} (h : Qs m p) : Qs m (-p) := ⟨by rw [Rat.neg_num, Int.natAbs_neg]; exact h.1, h.2⟩
theorem qs_zero : Qs 1 0 := ⟨by decide, by decide⟩
theorem qs_one : Qs 1 1 := ⟨by decide, by decide⟩
theorem lt_as (p q : Rat) : decide (p.num * (q.den : Int) < q.num * (p.den : Int)) = decide (p < q) := by
  rw [decide_eq_decide]
  exact (Rat.lt_iff p q).symm
end Wp

/-! steps of plain laws: single equations that simp takes, turns of comprehensions, comparisons of fractions -/
namespace Wp
open PySem PySem.Spec PyProof.Rows L2

theorem br_true {P Q : Prop} : Br true P Q ↔ P := ⟨fun h => h.1 rfl, fun h => ⟨fun _ => h, fun e => nomatch e⟩⟩
theorem br_false {P Q : Prop} : Br false P Q ↔ Q := ⟨fun h => h.2 rfl, fun h => ⟨fun e => (nomatch e), fun _ => h⟩⟩
theorem br_dec {p : Prop} [Decidable p] {P Q : Prop} : Br (decide p) P Q ↔ (p → P) ∧ (¬p → Q) := by
  unfold Br
  by_cases h : p
  · simp [h]
  · simp [h]
theorem br_not {b : Bool} {P Q : Prop} : Br (!b) P Q ↔ Br b Q P := by cases b <;> simp [Br]
theorem br_ndec {p : Prop} [Decidable p] {P Q : Prop} : Br (!decide p) P Q ↔ (p → Q) ∧ (¬p → P) := by rw [br_not]; exact br_dec
theorem br_beq {i j : Int} {P Q : Prop} : Br (i == j) P Q ↔ (i = j → P) ∧ (i ≠ j → Q) := by
  unfold Br
  by_cases h : i = j
  · simp [h]
  · simp [h]
theorem br_bne {i j : Int} {P Q : Prop} : Br (!(i == j)) P Q ↔ (i = j → Q) ∧ (i ≠ j → P) := by rw [br_not]; exact br_beq
theorem br_same {b : Bool} {P : Prop} : Br b P P ↔ P := by cases b <;> simp [Br]

/-! ### places beyond the store -/
theorem lst_at0 {S T : Sto} : lstAt (S ++ T) S.length = lstAt T 0 := by
  unfold lstAt
  rw [List.getElem?_append_right (Nat.le_refl _), Nat.sub_self]
theorem lst_at {S T : Sto} {k : Nat} : lstAt (S ++ T) (S.length + k) = lstAt T k := by
  unfold lstAt
  rw [List.getElem?_append_right (Nat.le_add_right _ _), Nat.add_sub_cancel_left]
theorem get_at0 {S T : Sto} : (S ++ T)[S.length]? = T[0]? := by
  rw [List.getElem?_append_right (Nat.le_refl _), Nat.sub_self]
theorem get_at {S T : Sto} {k : Nat} : (S ++ T)[S.length + k]? = T[k]? := by
  rw [List.getElem?_append_right (Nat.le_add_right _ _), Nat.add_sub_cancel_left]
theorem set_at0 {S T : Sto} {xs : List D} : setLst (S ++ T) S.length xs = S ++ setLst T 0 xs := by
  unfold setLst
  rw [List.set_append_right _ _ (Nat.le_refl _), Nat.sub_self]
theorem set_at {S T : Sto} {k : Nat} {xs : List D} : setLst (S ++ T) (S.length + k) xs = S ++ setLst T k xs := by
  unfold setLst
  rw [List.set_append_right _ _ (Nat.le_add_right _ _), Nat.add_sub_cancel_left]
theorem lst_hit {xs : List D} {T : Sto} : lstAt (.lst xs :: T) 0 = some xs := rfl
theorem lst_skip {o : O} {T : Sto} {k : Nat} : lstAt (o :: T) (k + 1) = lstAt T k := rfl
theorem set_hit {o : O} {xs : List D} {T : Sto} : setLst (o :: T) 0 xs = .lst xs :: T := rfl
theorem set_skip {o : O} {xs : List D} {T : Sto} {k : Nat} : setLst (o :: T) (k + 1) xs = o :: setLst T k xs := rfl
theorem lst_old {S T : Sto} {n : Nat} {xs : List D} (h : lstAt S n = some xs) : lstAt (S ++ T) n = some xs := by
  unfold lstAt at *
  have hl : n < S.length := by
    cases e : S[n]? with
    | none => rw [e] at h; cases h
    | some o => exact (List.getElem?_eq_some_iff.mp e).1
  rw [List.getElem?_append_left hl]
  exact h

/-! ### items by their places -/
theorem at_hit0 {d : D} {xs : List D} : atI (d :: xs) 0 = some d := by
  simp [atI, ixN]
theorem ix_q0 {q : Rat} {S : Sto} {Q : QD} : ixD (qD q) (.int 0) S Q ↔ Q (.int q.num) S := by
  show (∃ v, atI [.int q.num, .int q.den] 0 = some v ∧ Q v S) ↔ _
  simp [atI, ixN]
theorem ix_q1 {q : Rat} {S : Sto} {Q : QD} : ixD (qD q) (.int 1) S Q ↔ Q (.int q.den) S := by
  show (∃ v, atI [.int q.num, .int q.den] 1 = some v ∧ Q v S) ↔ _
  simp [atI, ixN]

/-! ### comprehensions whose tests and elements leave the store -/
theorem lc_fm {S0 : Sto} {n : Nat} {stay : Sto → Prop} {bind : D → (Env → Prop) → Prop} {test : Env → Sto → (Bool → Sto → Prop) → Prop} {elt : Env → Sto → QD → Prop} {k : Sto → Prop} (hn : n = S0.length) (g : D → Option D) (hst : ∀ acc, stay (S0 ++ [.lst acc])) :
    ∀ (xs : List D) (acc0 : List D), (∀ x ∈ xs, ∀ acc, ∀ P : Option D → Sto → Prop, P (g x) (S0 ++ [.lst acc]) → bind x fun ρ' => test ρ' (S0 ++ [.lst acc]) fun b S1 => Br b (elt ρ' S1 fun d S2 => P (some d) S2) (P none S1)) →
    acc0.length + xs.length ≤ 16777216 → k (S0 ++ [.lst (acc0 ++ xs.filterMap g)]) → lcD n stay bind test elt xs (S0 ++ [.lst acc0]) k
  | [], acc0, _, _, hk => ⟨hst _, by simpa using hk⟩
  | x :: r, acc0, h, hl, hk => by
    refine ⟨hst _, h x List.mem_cons_self acc0 (fun o S1 => match o with
      | some d => ∃ acc, lstAt S1 n = some acc ∧ acc.length < 16777216 ∧ lcD n stay bind test elt r (setLst S1 n (acc ++ [d])) k
      | none => lcD n stay bind test elt r S1 k) ?_⟩
    have hl' : acc0.length + (r.length + 1) ≤ 16777216 := hl
    subst hn
    cases e : g x with
    | none =>
      have hk' : k (S0 ++ [.lst (acc0 ++ r.filterMap g)]) := by rw [List.filterMap_cons_none e] at hk; exact hk
      exact lc_fm rfl g hst r acc0 (fun y hy => h y (List.mem_cons_of_mem _ hy)) (by omega) hk'
    | some d =>
      refine ⟨acc0, by rw [lst_at0, lst_hit], by omega, ?_⟩
      rw [set_at0, set_hit]
      refine lc_fm rfl g hst r (acc0 ++ [d]) (fun y hy => h y (List.mem_cons_of_mem _ hy)) (by rw [List.length_append, List.length_singleton]; omega) ?_
      rw [List.filterMap_cons_some e] at hk
      rw [List.append_assoc]
      exact hk

/-! ### comparing -/
def pD (q : Rat) : PyData := .tuple [.int q.num, .int q.den]
theorem pD_eqv (p q : Rat) : PyData.eqv (pD p) (pD q) = decide (p = q) := by
  have : PyData.eqv (pD p) (pD q) = (p.num == q.num && ((p.den : Int) == (q.den : Int) && true)) := rfl
  rw [this]
  by_cases h : p = q
  · subst h; simp
  · simp only [h, decide_false]
    by_cases h1 : p.num = q.num
    · by_cases h2 : p.den = q.den
      · exact absurd (Rat.ext h1 h2) h
      · have : ¬ (p.den : Int) = (q.den : Int) := by omega
        simp [h1, this]
    · simp [h1]
theorem eq_q {p q : Rat} {S : Sto} {k : Bool → Prop} (h : k (decide (p = q))) : eqD (qD p) (qD q) S k := by
  refine ⟨64, pD p, pD q, rfl, rfl, rfl, rfl, ?_⟩
  rw [pD_eqv]
  exact h
theorem atI_of {α : Type} (xs : List α) {k : Int} (h0 : 0 ≤ k) (h : k < (xs.length : Int)) : atI xs k = xs[k.toNat]? := by
  unfold atI ixN
  rw [if_pos h0, if_pos h]
  rfl

/-! ### for the end -/
theorem isaB_ok {K : PySem.W.Frag} {ad : Ad} : ∀ t c b, isaB t c = some b → PySem.W.kitOne K (tyVal ad t) (clVal ad c) = some b := by
  intro t c b h
  cases t <;> cases c <;> first | (cases h; done) | (cases h; exact kit_ty (by decide +kernel))
theorem sp_any {nm : Nm} {K : PySem.W.Frag} {ad ad' : Ad} {vs : List V} {H : Hp} {Q : VK} {E : XK} (h : spOf nm ad' K lawSpec.ctr vs H Q E) : spOf nm ad K lawSpec.ctr vs H Q E := by
  obtain ⟨ds, S, m, sm, r, ⟨ns, e1, e2, e3⟩, q, _⟩ := h
  subst e1; subst e3
  refine ⟨_, [], [], ⟨rfl, List.nodup_nil, fun n o a h => by simp at h⟩, ?_, ⟨ns, rfl, e2, rfl⟩, fun d S' e => ?_, fun _ _ h => h.elim⟩
  · have hm : m = [] := List.eq_nil_of_length_eq_zero (by rw [sm.len]; rfl)
    subst hm
    exact r
  · have e' : d = .bl true := e
    subst e'
    intro x H' m' ex s' r'
    cases r'
    have hm : m = [] := List.eq_nil_of_length_eq_zero (by rw [sm.len]; rfl)
    subst hm
    have ee : Post nm ad' K H [] Q (.bl true) [] := q (.bl true) [] rfl
    exact ee _ _ [] ⟨ex.tup, ex.frz, fun i a h => by simp at h⟩ ⟨rfl, List.nodup_nil, fun n o a h => by simp at h⟩ (.bl true)
theorem cx_false {p : Program} {w : World} {o : List PySem.Env} {H : Hp} {s : Shared} {e : Value} {s' : Shared} (z : L2.CX p w o H s (fun _ _ _ => False) e s') : False := by
  obtain ⟨_, _, _, _, _, _, _, _, _, _, _, _, h⟩ := z
  exact h
/-- the rest of a suite, kept shut -/
def denL (Γ : Tab) (b : Bl) : DenS := denB Γ b
theorem denB_step {Γ : Tab} {s : Sm} {r : Bl} {ρ : Env} {S : Sto} {z : Z} : denB Γ (.cons s r) ρ S z = denS Γ s ρ S { z with nx := fun ρ' S' => denL Γ r ρ' S' z } := rfl
theorem at_in {xs : List D} {i : Int} (h0 : 0 ≤ i) (h : i < (xs.length : Int)) : ∃ v, atI xs i = some v ∧ v ∈ xs := by
  rw [atI_of xs h0 h]
  have : i.toNat < xs.length := by omega
  exact ⟨xs[i.toNat], List.getElem?_eq_getElem this, List.getElem_mem this⟩
theorem sz_mod {n : Nat} {m : Int} (i : Int) (h : 0 < m) (q : m ≤ 2 ^ n) : Sz n (i.fmod m) :=
  Sz.of_lt (Int.fmod_nonneg_of_pos i h) (Int.lt_of_lt_of_le (Int.fmod_lt_of_pos i h) q)
theorem len_q {q : Rat} {S : Sto} {Q : QD} : bltD .len [qD q] S Q ↔ Q (.int 2) S := Iff.rfl
theorem ty_q {q : Rat} {S : Sto} : tyC S (qD q) = some .tuple := rfl
theorem q_zero : D.tup [.int 0, .int 1] = qD 0 := rfl
theorem q_one : D.tup [.int 1, .int 1] = qD 1 := rfl
theorem eq_qb {p q : Rat} {S : Sto} {k : Bool → Prop} : eqD (qD p) (qD q) S k ↔ k (decide (p = q)) := by
  refine ⟨fun ⟨f, d, e, h1, h2, _, _, h⟩ => ?_, eq_q⟩
  have g1 : ∀ (f : Nat) (p : Rat) (d : PyData), toPy S f (qD p) = some d → d = pD p := by
    intro f p d h
    match f with
    | 0 => cases h
    | 1 => simp [toPy, toPys, qD] at h
    | 2 => simp [toPy, toPys, qD] at h
    | f + 3 => simp [toPy, toPys, qD] at h; exact h.symm
  rw [g1 f p d h1, g1 f q e h2, pD_eqv] at h
  exact h
theorem eq_ii {i j : Int} {S : Sto} {k : Bool → Prop} : eqD (.int i) (.int j) S k ↔ k (i == j) := Iff.rfl
theorem ix_tup {xs : List D} {i : Int} {S : Sto} {Q : QD} : ixD (.tup xs) (.int i) S Q ↔ ∃ v, atI xs i = some v ∧ Q v S := Iff.rfl
theorem ix_rol {xs : List D} {i : Int} {S : Sto} {Q : QD} : ixD (.rol xs) (.int i) S Q ↔ ∃ v, atI xs i = some v ∧ Q v S := Iff.rfl
theorem ix_loc {n : Nat} {i : Int} {S : Sto} {Q : QD} : ixD (.loc n) (.int i) S Q ↔ ∃ xs v, lstAt S n = some xs ∧ atI xs i = some v ∧ Q v S := Iff.rfl
theorem ints_inj {ns ms : List Int} : ns.map D.int = ms.map D.int ↔ ns = ms := by
  refine ⟨fun h => ?_, fun h => h ▸ rfl⟩
  induction ns generalizing ms with
  | nil => cases ms with
    | nil => rfl
    | cons m r => cases h
  | cons n r ih => cases ms with
    | nil => cases h
    | cons m s =>
      rw [List.map_cons, List.map_cons] at h
      injection h with h1 h2
      injection h1 with h1
      rw [h1, ih h2]
theorem div_ok {i j : Int} (h0 : j ≠ 0) (h : j.natAbs < 1073741824) : DivOk i j ↔ True := ⟨fun _ => trivial, fun _ => div_lit h0 h⟩
theorem mul_okR {i j : Int} (h : j.natAbs < 18446744073709551616) : IntMulOk i j ↔ True := ⟨fun _ => trivial, fun _ => mul_litR h⟩
theorem mul_okL {i j : Int} (h : i.natAbs < 18446744073709551616) : IntMulOk i j ↔ True := ⟨fun _ => trivial, fun _ => mul_litL h⟩
theorem ix_ints {xs : List D} {i : Int} {R : Int → Prop} {P : D → Prop} (h0 : 0 ≤ i) (h : i < (xs.length : Int)) (hr : ∀ v ∈ xs, ∃ t, v = .int t ∧ R t) (hp : ∀ t, R t → P (.int t)) : ∃ v, atI xs i = some v ∧ P v := by
  obtain ⟨v, h1, h2⟩ := at_in h0 h
  obtain ⟨t, e, r⟩ := hr v h2
  exact ⟨v, h1, e ▸ hp t r⟩
theorem ix_any {xs : List D} {i : Int} {P : D → Prop} (h0 : 0 ≤ i) (h : i < (xs.length : Int)) (hp : ∀ v ∈ xs, P v) : ∃ v, atI xs i = some v ∧ P v := by
  obtain ⟨v, h1, h2⟩ := at_in h0 h
  exact ⟨v, h1, hp v h2⟩
theorem pow_ok {i j : Int} : PowOk i j ↔ 0 ≤ j ∧ j ≤ 1000000 ∧ i.natAbs < 18446744073709551616 := Iff.rfl
theorem clo_int {n : Nat} {i : Int} : cloD n (.int i) ↔ True := Iff.rfl
theorem clo_q {n : Nat} {q : Rat} : cloD n (qD q) ↔ True := ⟨fun _ => trivial, fun _ => ⟨trivial, trivial, trivial⟩⟩
theorem fmod_lt3 (i : Int) {m n : Int} (h : 0 < m) (e : m ≤ n) : i.fmod m < n := Int.lt_of_lt_of_le (Int.fmod_lt_of_pos i h) e
theorem isaB_all : isaB .non .int = some false ∧ isaB .non .bool = some false ∧ isaB .non .str = some false ∧ isaB .non .tuple = some false ∧ isaB .non .list = some false ∧ isaB .bool .int = some true ∧ isaB .bool .bool = some true ∧ isaB .bool .str = some false ∧ isaB .bool .tuple = some false ∧ isaB .bool .list = some false ∧ isaB .int .int = some true ∧ isaB .int .bool = some false ∧ isaB .int .str = some false ∧ isaB .int .tuple = some false ∧ isaB .int .list = some false ∧ isaB .str .int = some false ∧ isaB .str .bool = some false ∧ isaB .str .str = some true ∧ isaB .str .tuple = some false ∧ isaB .str .list = some false ∧ isaB .tuple .int = some false ∧ isaB .tuple .bool = some false ∧ isaB .tuple .str = some false ∧ isaB .tuple .tuple = some true ∧ isaB .tuple .list = some false ∧ isaB .list .int = some false ∧ isaB .list .bool = some false ∧ isaB .list .str = some false ∧ isaB .list .tuple = some false ∧ isaB .list .list = some true := ⟨rfl, rfl, rfl, rfl, rfl, rfl, rfl, rfl, rfl, rfl, rfl, rfl, rfl, rfl, rfl, rfl, rfl, rfl, rfl, rfl, rfl, rfl, rfl, rfl, rfl, rfl, rfl, rfl, rfl, rfl⟩
theorem isa_one {f : TyC → Cl → Option Bool} {t : TyC} {c : Cl} : isaAny f t [c] = f t c := by
  unfold isaAny
  cases f t c with
  | none => rfl
  | some b => cases b <;> rfl
theorem isa_yes {f : TyC → Cl → Option Bool} {t : TyC} {c : Cl} {r : List Cl} (h : f t c = some true) : isaAny f t (c :: r) = some true := by
  rw [isaAny, h]
theorem isa_no {f : TyC → Cl → Option Bool} {t : TyC} {c : Cl} {r : List Cl} (h : f t c = some false) : isaAny f t (c :: r) = isaAny f t r := by
  rw [isaAny, h]
theorem ty_non {S : Sto} : tyC S .non = some .non := rfl
theorem ty_bl {S : Sto} {b : Bool} : tyC S (.bl b) = some .bool := rfl
theorem ty_int {S : Sto} {i : Int} : tyC S (.int i) = some .int := rfl
theorem ty_str {S : Sto} {x : Str} : tyC S (.str x) = some .str := rfl
theorem ty_tup {S : Sto} {xs : List D} : tyC S (.tup xs) = some .tuple := rfl
theorem ty_rol {S : Sto} {xs : List D} : tyC S (.rol xs) = some .list := rfl
theorem ty_loc {S : Sto} {n : Nat} {xs : List D} (h : lstAt S n = some xs) : tyC S (.loc n) = some .list := by
  unfold lstAt at h
  unfold tyC
  split at h
  · rename_i e
    simp only [e]
  · cases h
theorem fmod_lit {a b : Int} (h : 0 ≤ b) : a.fmod b = a % b := Int.fmod_eq_emod_of_nonneg a h
theorem fdiv_lit {a b : Int} (h : 0 ≤ b) : a.fdiv b = a / b := Int.fdiv_eq_ediv_of_nonneg a h
theorem sz_emod {n : Nat} {m : Int} (i : Int) (h : 0 < m) (q : m ≤ 2 ^ n) : Sz n (i % m) :=
  Sz.of_lt (Int.emod_nonneg i (by omega)) (Int.lt_of_lt_of_le (Int.emod_lt_of_pos i h) q)
theorem clo_non {n : Nat} : cloD n .non ↔ True := Iff.rfl
theorem clo_bl {n : Nat} {b : Bool} : cloD n (.bl b) ↔ True := Iff.rfl
theorem clo_str {n : Nat} {x : Str} : cloD n (.str x) ↔ True := Iff.rfl
theorem fin_id {S : Sto} {Q : QD} {d : D} (h : Q d S) : Fin' S Q d S := .inl h
theorem br_p {p : Prop} [Decidable p] {P Q : Prop} (h : p) (k : P) : Br (decide p) P Q := by rw [br_dec]; exact ⟨fun _ => k, fun n => absurd h n⟩
theorem eq_by {x y : D} {S : Sto} {f : Nat} {d e : PyData} {k : Bool → Prop} (h1 : toPy S f x = some d) (h2 : toPy S f y = some e) (h3 : SeqAt.shaped d = true) (h4 : SeqAt.shaped e = true) (h : k (PyData.eqv d e)) : eqD x y S k := by
  unfold eqD
  split
  · rename_i i j
    cases f <;> (simp only [toPy, Option.some.injEq] at h1 h2; subst h1; subst h2; exact h)
  · exact ⟨f, d, e, h1, h2, h3, h4, h⟩
theorem fin_law {Q : QD} {S : Sto} (h : Q (.bl true) []) : Fin' [] Q (.bl true) S := fin_junk (S := []) (j := S) h trivial
theorem lt_self (p : Rat) : (p < p) ↔ False := ⟨Rat.lt_irrefl, False.elim⟩
end Wp

/-! comparing data, told both ways; ranges that are written out; sharper sizes -/
namespace Wp
open PySem PySem.Spec PyProof.Rows L2

mutual
theorem py_more {S : Sto} : ∀ (f : Nat) (x : D) (d : PyData), toPy S f x = some d → toPy S (f + 1) x = some d
  | 0, .non, d, h => h
  | 0, .bl b, d, h => h
  | 0, .int i, d, h => h
  | 0, .str x, d, h => h
  | 0, .key ks, d, h => h
  | f + 1, .key ks, d, h => h
  | 0, .tup xs, d, h => by cases h
  | 0, .rol xs, d, h => by cases h
  | 0, .loc n, d, h => by cases h
  | _, .exc n, d, h => by first | cases h | (rename_i f; cases f <;> cases h)
  | f + 1, .non, d, h => h
  | f + 1, .bl b, d, h => h
  | f + 1, .int i, d, h => h
  | f + 1, .str x, d, h => h
  | f + 1, .tup xs, d, h => by
    rw [toPy] at h ⊢
    cases e : toPys S f xs with
    | none => rw [e] at h; cases h
    | some ds => rw [e] at h; rw [pys_more f xs ds e]; exact h
  | f + 1, .rol xs, d, h => by
    rw [toPy] at h ⊢
    cases e : toPys S f xs with
    | none => rw [e] at h; cases h
    | some ds => rw [e] at h; rw [pys_more f xs ds e]; exact h
  | f + 1, .loc n, d, h => by
    rw [toPy] at h ⊢
    split at h
    · rename_i xs e1
      cases e : toPys S f xs with
      | none => rw [e] at h; cases h
      | some ds => rw [e] at h; rw [pys_more f xs ds e]; exact h
    · cases h
theorem pys_more {S : Sto} : ∀ (f : Nat) (xs : List D) (ds : List PyData), toPys S f xs = some ds → toPys S (f + 1) xs = some ds
  | f, [], ds, h => by cases f <;> exact h
  | 0, x :: r, ds, h => by cases h
  | f + 1, x :: r, ds, h => by
    rw [toPys] at h ⊢
    cases e1 : toPy S f x with
    | none => rw [e1] at h; cases h
    | some d =>
      cases e2 : toPys S f r with
      | none => rw [e1, e2] at h; cases h
      | some zs =>
        rw [e1, e2] at h
        rw [py_more f x d e1, pys_more f r zs e2]
        exact h
end
theorem pys_le {S : Sto} {f g : Nat} {x : List D} {d : List PyData} (h : toPys S f x = some d) (l : f ≤ g) : toPys S g x = some d := by
  induction l with
  | refl => exact h
  | step _ ih => exact pys_more _ _ _ ih
theorem py_le {S : Sto} {f g : Nat} {x : D} {d : PyData} (h : toPy S f x = some d) (l : f ≤ g) : toPy S g x = some d := by
  induction l with
  | refl => exact h
  | step _ ih => exact py_more _ _ _ ih
theorem py_one {S : Sto} {f g : Nat} {x : D} {d e : PyData} (h : toPy S f x = some d) (q : toPy S g x = some e) : d = e := by
  rcases Nat.le_total f g with l | l
  · rw [py_le h l] at q; exact Option.some.inj q
  · rw [py_le q l] at h; exact (Option.some.inj h).symm
theorem eq_iff {x y : D} {S : Sto} {f g : Nat} {d e : PyData} {k : Bool → Prop} (h1 : toPy S f x = some d) (h2 : toPy S g y = some e) (h3 : SeqAt.shaped d = true) (h4 : SeqAt.shaped e = true) : eqD x y S k ↔ k (PyData.eqv d e) := by
  constructor
  · intro h
    unfold eqD at h
    split at h
    · rename_i i j
      have a : d = .int i := py_one h1 (show toPy S 0 (.int i) = some (.int i) from rfl)
      have b : e = .int j := py_one h2 (show toPy S 0 (.int j) = some (.int j) from rfl)
      subst a; subst b
      exact h
    · obtain ⟨f', d', e', q1, q2, _, _, q⟩ := h
      rw [py_one h1 q1, py_one h2 q2]
      exact q
  · exact eq_by (f := max f g) (py_le h1 (Nat.le_max_left _ _)) (py_le h2 (Nat.le_max_right _ _)) h3 h4
theorem py_q {S : Sto} (f : Nat) (p : Rat) : toPy S (f + 3) (qD p) = some (pD p) := by simp [toPy, toPys, qD, pD]
theorem eqv_and (p q : Rat) (xs ys : List PyData) : PyData.eqvAll (pD p :: xs) (pD q :: ys) = (decide (p = q) && PyData.eqvAll xs ys) := by
  rw [PyData.eqvAll, pD_eqv]
theorem eqv_nil : PyData.eqvAll [] [] = true := rfl
theorem eq_q2 {a b c d : Rat} {S : Sto} {k : Bool → Prop} : eqD (.tup [qD a, qD b]) (.tup [qD c, qD d]) S k ↔ k (decide (a = c ∧ b = d)) := by
  rw [eq_iff (f := 9) (g := 9) (d := .tuple [pD a, pD b]) (e := .tuple [pD c, pD d]) rfl rfl rfl rfl, PyData.eqv, eqv_and, eqv_and, eqv_nil, Bool.decide_and, Bool.and_true]
theorem eq_q5 {a b c d e a' b' c' d' e' : Rat} {S : Sto} {k : Bool → Prop} : eqD (.tup [qD a, qD b, qD c, qD d, qD e]) (.tup [qD a', qD b', qD c', qD d', qD e']) S k ↔ k (decide (a = a' ∧ b = b' ∧ c = c' ∧ d = d' ∧ e = e')) := by
  rw [eq_iff (f := 12) (g := 12) (d := .tuple [pD a, pD b, pD c, pD d, pD e]) (e := .tuple [pD a', pD b', pD c', pD d', pD e']) rfl rfl rfl rfl, PyData.eqv]
  simp only [eqv_and, eqv_nil, Bool.decide_and, Bool.and_true]
theorem rng_0 : rngD 0 0 = [] := rfl
theorem rng_1 : rngD 0 1 = [.int 0] := rfl
theorem rng_2 : rngD 0 2 = [.int 0, .int 1] := rfl
theorem rng_3 : rngD 0 3 = [.int 0, .int 1, .int 2] := rfl
theorem rng_4 : rngD 0 4 = [.int 0, .int 1, .int 2, .int 3] := rfl
theorem rng_5 : rngD 0 5 = [.int 0, .int 1, .int 2, .int 3, .int 4] := rfl
theorem Sz.add1 {m : Nat} {i j : Int} (h : Sz m i) (q : Sz m j) : Sz (m + 1) (i + j) := by
  unfold Sz at *
  have e := Int.natAbs_add_le i j
  rw [Nat.pow_succ]
  omega
theorem Qs.plus {m n : Nat} {p q : Rat} (h : Qs m p) (k : Qs n q) : Qs (m + n + 1) (p + q) := by
  rw [← plus_as]
  exact qs_div (Int.mul_ne_zero (den_ne p) (den_ne q)) ((h.num.mul k.den).add1 ((k.num.mul h.den).mono (by omega))) ((h.den.mul k.den).mono (by omega))
theorem Qs.minus {m n : Nat} {p q : Rat} (h : Qs m p) (k : Qs n q) : Qs (m + n + 1) (p - q) := by
  rw [Rat.sub_eq_add_neg]
  exact h.plus k.neg
theorem bools_nil : bools [] = some [] := rfl
theorem bools_cons {b : Bool} {r : List D} : bools (.bl b :: r) = (bools r).map (b :: ·) := rfl
theorem all_loc {n : Nat} {S : Sto} {Q : QD} : bltD .all [.loc n] S Q ↔ ∃ xs bs, lstAt S n = some xs ∧ bools xs = some bs ∧ Q (.bl (bs.all id)) S := Iff.rfl
/-- from a list that is at hand -/
theorem at_0 {x : D} {r : List D} : atI (x :: r) 0 = some x := atI_nat (j := 0) rfl
theorem at_1 {x y : D} {r : List D} : atI (x :: y :: r) 1 = some y := atI_nat (j := 1) rfl
theorem at_2 {x y z : D} {r : List D} : atI (x :: y :: z :: r) 2 = some z := atI_nat (j := 2) rfl
theorem at_3 {x y z u : D} {r : List D} : atI (x :: y :: z :: u :: r) 3 = some u := atI_nat (j := 3) rfl
theorem at_4 {x y z u v : D} {r : List D} : atI (x :: y :: z :: u :: v :: r) 4 = some v := atI_nat (j := 4) rfl
end Wp

/-! contracts that several laws use -/
namespace Wp
open PySem PySem.Spec PyProof.Rows L2

def cGcd : Ctr := fun ds S Q _ => ∃ a b : Int, ds = [.int a, .int b] ∧ Q (.int (Int.gcd a b)) S
theorem mGcd : MonC cGcd := fun _ _ _ _ _ _ hq _ ⟨ns, k, a, q⟩ => ⟨ns, k, a, hq _ _ q⟩
def cPlus : Ctr := fun ds S Q _ => ∃ p q : Rat, ds = [qD p, qD q] ∧ Qs 4000 p ∧ Qs 4000 q ∧ Q (qD (p + q)) S
theorem mPlus : MonC cPlus := fun _ _ _ _ _ _ hq _ ⟨p, q, a, b, c, z⟩ => ⟨p, q, a, b, c, hq _ _ z⟩
def cMinus : Ctr := fun ds S Q _ => ∃ p q : Rat, ds = [qD p, qD q] ∧ Qs 4000 p ∧ Qs 4000 q ∧ Q (qD (p - q)) S
theorem mMinus : MonC cMinus := fun _ _ _ _ _ _ hq _ ⟨p, q, a, b, c, z⟩ => ⟨p, q, a, b, c, hq _ _ z⟩
def cTimes : Ctr := fun ds S Q _ => ∃ p q : Rat, ds = [qD p, qD q] ∧ Qs 4000 p ∧ Qs 4000 q ∧ Q (qD (p * q)) S
theorem mTimes : MonC cTimes := fun _ _ _ _ _ _ hq _ ⟨p, q, a, b, c, z⟩ => ⟨p, q, a, b, c, hq _ _ z⟩
def cLess : Ctr := fun ds S Q _ => ∃ p q : Rat, ds = [qD p, qD q] ∧ Qs 4000 p ∧ Qs 4000 q ∧ Q (.bl (decide (p < q))) S
theorem mLess : MonC cLess := fun _ _ _ _ _ _ hq _ ⟨p, q, a, b, c, z⟩ => ⟨p, q, a, b, c, hq _ _ z⟩
def cLaid : Ctr := fun ds S Q _ => ∃ g p a q b x y : Rat, ds = [.tup [qD g, qD p, qD a, qD q, qD b], .tup [qD x, qD y]] ∧ Qs 900 g ∧ Qs 900 p ∧ Qs 900 a ∧ Qs 900 q ∧ Qs 900 b ∧ Qs 900 x ∧ Qs 900 y ∧ Q (.tup [qD (g * x + p * y + a), qD (q * y + b)]) S
theorem mLaid : MonC cLaid := fun _ _ _ _ _ _ hq _ ⟨g, p, a, q, b, x, y, e, h1, h2, h3, h4, h5, h6, h7, z⟩ => ⟨g, p, a, q, b, x, y, e, h1, h2, h3, h4, h5, h6, h7, hq _ _ z⟩
def cBehind : Ctr := fun ds S Q _ => ∃ g p a q b g' p' a' q' b' : Rat, ds = [.tup [qD g, qD p, qD a, qD q, qD b], .tup [qD g', qD p', qD a', qD q', qD b']] ∧
  (Qs 900 g ∧ Qs 900 p ∧ Qs 900 a ∧ Qs 900 q ∧ Qs 900 b) ∧ (Qs 900 g' ∧ Qs 900 p' ∧ Qs 900 a' ∧ Qs 900 q' ∧ Qs 900 b') ∧
  Q (.tup [qD (g' * g), qD (g' * p + p' * q), qD (g' * a + p' * b + a'), qD (q' * q), qD (q' * b + b')]) S
theorem mBehind : MonC cBehind := fun _ _ _ _ _ _ hq _ ⟨g, p, a, q, b, g', p', a', q', b', e, h1, h2, z⟩ => ⟨g, p, a, q, b, g', p', a', q', b', e, h1, h2, hq _ _ z⟩
theorem clo_tup {n : Nat} {xs : List D} : cloD n (.tup xs) ↔ cloDs n xs := Iff.rfl
theorem clo_nil {n : Nat} : cloDs n [] ↔ True := Iff.rfl
theorem clo_cons {n : Nat} {d : D} {r : List D} : cloDs n (d :: r) ↔ cloD n d ∧ cloDs n r := Iff.rfl
theorem eq_same {x y : D} {S : Sto} {f : Nat} {d : PyData} {k : Bool → Prop} (h1 : toPy S f x = some d) (h2 : toPy S f y = some d) (h3 : SeqAt.shaped d = true) (h : k true) : eqD x y S k :=
  eq_by h1 h2 h3 h3 (by rw [SeqAt.eqv_refl d (SeqAt.canLay_of_shaped h3)]; exact h)
/-! ### the meanings case by case, so that nothing is opened before its values stand there -/
section
variable {S : Sto} {Q : QD} {k : Bool → Prop} {i j : Int} {x y : Str} {xs ys : List D} {n m : Nat} {b : Bool} {d e : D}
theorem bin_ii {op : Op} : binD op (.int i) (.int j) S Q ↔ intOp op i j fun k => Q (.int k) S := by cases op <;> exact Iff.rfl
theorem bin_ss : binD .add (.str x) (.str y) S Q ↔ x.length + y.length ≤ 16777216 ∧ Q (.str (x ++ y)) S := Iff.rfl
theorem bin_tt : binD .add (.tup xs) (.tup ys) S Q ↔ xs ≠ [] ∧ xs.length + ys.length ≤ 16777216 ∧ Q (.tup (xs ++ ys)) S := Iff.rfl
theorem bin_ll : binD .add (.loc n) (.loc m) S Q ↔ ∃ xs ys, lstAt S n = some xs ∧ lstAt S m = some ys ∧ xs.length + ys.length ≤ 16777216 ∧ Q (.loc S.length) (S ++ [.lst (xs ++ ys)]) := Iff.rfl
theorem int_add {r : Int → Prop} : intOp .add i j r ↔ r (i + j) := Iff.rfl
theorem int_sub {r : Int → Prop} : intOp .sub i j r ↔ r (i - j) := Iff.rfl
theorem int_mul {r : Int → Prop} : intOp .mul i j r ↔ IntMulOk i j ∧ r (i * j) := Iff.rfl
theorem int_fdiv {r : Int → Prop} : intOp .fdiv i j r ↔ DivOk i j ∧ r (i.fdiv j) := Iff.rfl
theorem int_mod {r : Int → Prop} : intOp .mod i j r ↔ j ≠ 0 ∧ r (i.fmod j) := Iff.rfl
theorem int_pow {r : Int → Prop} : intOp .pow i j r ↔ PowOk i j ∧ r (i ^ j.toNat) := Iff.rfl
theorem cop_lt : copD .lt (.int i) (.int j) S k ↔ k (decide (i < j)) := Iff.rfl
theorem cop_le : copD .le (.int i) (.int j) S k ↔ k (decide (i ≤ j)) := Iff.rfl
theorem cop_gt : copD .gt (.int i) (.int j) S k ↔ k (decide (j < i)) := Iff.rfl
theorem cop_ge : copD .ge (.int i) (.int j) S k ↔ k (decide (j ≤ i)) := Iff.rfl
theorem cop_eq : copD .eq d e S k ↔ eqD d e S k := by unfold copD; cases d <;> cases e <;> exact Iff.rfl
theorem cop_ne : copD .ne d e S k ↔ eqD d e S fun b => k (!b) := by unfold copD; cases d <;> cases e <;> exact Iff.rfl
theorem cop_is : copD .is_ d .non S k ↔ k (isNon d) := by cases d <;> exact Iff.rfl
theorem cop_isn : copD .isn d .non S k ↔ k (!isNon d) := by cases d <;> exact Iff.rfl
theorem non_non : isNon .non = true := rfl
theorem non_bl : isNon (.bl b) = false := rfl
theorem non_int : isNon (.int i) = false := rfl
theorem non_str : isNon (.str x) = false := rfl
theorem non_tup : isNon (.tup xs) = false := rfl
theorem non_loc : isNon (.loc n) = false := rfl
theorem non_q {q : Rat} : isNon (qD q) = false := rfl
theorem tru_non : truD .non S k ↔ k false := Iff.rfl
theorem tru_bl : truD (.bl b) S k ↔ k b := Iff.rfl
theorem tru_int : truD (.int i) S k ↔ k (i != 0) := Iff.rfl
theorem tru_tup : truD (.tup xs) S k ↔ k (!xs.isEmpty) := Iff.rfl
theorem tru_rol : truD (.rol xs) S k ↔ k (!xs.isEmpty) := Iff.rfl
theorem tru_loc : truD (.loc n) S k ↔ ∃ xs, lstAt S n = some xs ∧ k (!xs.isEmpty) := Iff.rfl
theorem len_tup : bltD .len [.tup xs] S Q ↔ Q (.int xs.length) S := Iff.rfl
theorem len_rol : bltD .len [.rol xs] S Q ↔ Q (.int xs.length) S := Iff.rfl
theorem len_loc : bltD .len [.loc n] S Q ↔ ∃ xs, lstAt S n = some xs ∧ Q (.int xs.length) S := Iff.rfl
theorem len_str : bltD .len [.str x] S Q ↔ x.length ≤ 16777216 ∧ Q (.int x.length) S := Iff.rfl
theorem abs_int : bltD .abs [.int i] S Q ↔ Q (.int (if i < 0 then -i else i)) S := Iff.rfl
theorem min_int : bltD .min2 [.int i, .int j] S Q ↔ Q (.int (if j < i then j else i)) S := Iff.rfl
theorem max_int : bltD .max2 [.int i, .int j] S Q ↔ Q (.int (if j > i then j else i)) S := Iff.rfl
theorem tuple_tup : bltD .tuple [.tup xs] S Q ↔ Q (.tup xs) S := Iff.rfl
theorem tuple_rol : bltD .tuple [.rol xs] S Q ↔ Q (.tup xs) S := Iff.rfl
theorem tuple_loc : bltD .tuple [.loc n] S Q ↔ ∃ xs, lstAt S n = some xs ∧ Q (.tup xs) S := Iff.rfl
theorem list_tup : bltD .list [.tup xs] S Q ↔ Q (.loc S.length) (S ++ [.lst xs]) := Iff.rfl
theorem list_rol : bltD .list [.rol xs] S Q ↔ Q (.loc S.length) (S ++ [.lst xs]) := Iff.rfl
theorem list_loc : bltD .list [.loc n] S Q ↔ ∃ xs, lstAt S n = some xs ∧ Q (.loc S.length) (S ++ [.lst xs]) := Iff.rfl
theorem int_int : bltD .int1 [.int i] S Q ↔ Q (.int i) S := Iff.rfl
theorem int_bl : bltD .int1 [.bl b] S Q ↔ Q (.int (if b then 1 else 0)) S := Iff.rfl
theorem dm_int : bltD .divmod [.int i, .int j] S Q ↔ 0 < j ∧ Builtin.divisionGoesByPylong i j = false ∧ Q (.tup [.int (i / j), .int (i % j)]) S := Iff.rfl
theorem bm_app : bmD .append (.loc n) [d] S Q ↔ ∃ xs, lstAt S n = some xs ∧ xs.length < 16777216 ∧ Q .non (setLst S n (xs ++ [d])) := Iff.rfl
theorem bm_clr : bmD .clear (.loc n) [] S Q ↔ ∃ xs, lstAt S n = some xs ∧ Q .non (setLst S n []) := Iff.rfl
theorem bm_upp : bmD .upper (.str x) [] S Q ↔ x.length ≤ 5592405 ∧ Q (.str (Txt.upper x)) S := Iff.rfl
theorem bm_ins : bmD .insert (.loc n) [.int i, d] S Q ↔ ∃ xs, lstAt S n = some xs ∧ (xs.length < 16777216 ∧ 0 ≤ i ∧ i < 2 ^ 63) ∧ Q .non (setLst S n (xs.take i.toNat ++ [d] ++ xs.drop i.toNat)) := Iff.rfl
theorem bm_popA : bmD .popAt (.loc n) [.int i] S Q ↔ ∃ xs v, lstAt S n = some xs ∧ (0 ≤ i ∧ i < 2 ^ 62 ∧ xs[i.toNat]? = some v) ∧ Q v (setLst S n (xs.eraseIdx i.toNat)) := Iff.rfl
theorem bm_ext : bmD .extend (.loc n) [.loc m] S Q ↔ ∃ xs ys, lstAt S n = some xs ∧ (lstAt S m = some ys ∧ xs.length + ys.length ≤ 16777216) ∧ Q .non (setLst S n (xs ++ ys)) := Iff.rfl
theorem mt_ins : mtTy .insert (.loc n) S ↔ ∃ xs, lstAt S n = some xs := Iff.rfl
theorem mt_popA : mtTy .popAt (.loc n) S ↔ ∃ xs, lstAt S n = some xs := Iff.rfl
theorem mt_ext : mtTy .extend (.loc n) S ↔ ∃ xs, lstAt S n = some xs := Iff.rfl
theorem cop_isb {b c : Bool} : copD .is_ (.bl b) (.bl c) S k ↔ k (decide (b = c)) := Iff.rfl
theorem cop_isnb {b c : Bool} : copD .isn (.bl b) (.bl c) S k ↔ k (!decide (b = c)) := Iff.rfl
theorem cop_in : copD .in_ d e S k ↔ inD d e S k := by unfold copD; cases d <;> cases e <;> exact Iff.rfl
theorem cop_nin : copD .nin d e S k ↔ inD d e S fun b => k (!b) := by unfold copD; cases d <;> cases e <;> exact Iff.rfl
theorem mt_app : mtTy .append (.loc n) S ↔ ∃ xs, lstAt S n = some xs := Iff.rfl
theorem mt_clr : mtTy .clear (.loc n) S ↔ ∃ xs, lstAt S n = some xs := Iff.rfl
theorem mt_upp : mtTy .upper (.str x) S ↔ True := Iff.rfl
theorem it_tup : itemsOf S (.tup xs) = some xs := rfl
theorem it_rol : itemsOf S (.rol xs) = some xs := rfl
theorem it_loc : itemsOf S (.loc n) = lstAt S n := rfl
theorem it_q {q : Rat} : itemsOf S (qD q) = some [.int q.num, .int q.den] := rfl
theorem stay_tup : stayOf (.tup xs) ys = fun _ => True := rfl
theorem stay_rol : stayOf (.rol xs) ys = fun _ => True := rfl
theorem stay_locE : stayOf (.loc n) ys = fun S => lstAt S n = some ys := rfl
theorem tg_nm {t : Nat} {ρ : Env} {r : Env → Prop} : tgD (.nm t) d ρ r ↔ r (ρ.set t (some d)) := Iff.rfl
theorem tg_tp {ts : List Nat} {ρ : Env} {r : Env → Prop} : tgD (.tp ts) (.tup xs) ρ r ↔ ∃ ρ', setAll ts xs ρ = some ρ' ∧ r ρ' := Iff.rfl
end
theorem rest_as (q : Rat) : Rat.divInt (q.den - q.num) q.den = 1 - q := by
  have h := minus_as 1 q
  rw [Rat.one_num, Rat.one_den] at h
  rw [← h]
  congr 1 <;> simp
section
variable {S : Sto} {Q : QD} {Y : XD}
theorem ends_nx : (endsOf S Q Y).nx = fun _ S' => Fin' S Q .non S' := rfl
theorem ends_rt : (endsOf S Q Y).rt = Fin' S Q := rfl
theorem ends_ex : (endsOf S Q Y).ex = fun c _ S' => FinX S Y c S' := rfl
end
/-- a rule of five fractions of a size -/
def RuQ (n : Nat) (d : D) : Prop := ∃ g p a q b : Rat, d = .tup [qD g, qD p, qD a, qD q, qD b] ∧ Qs n g ∧ Qs n p ∧ Qs n a ∧ Qs n q ∧ Qs n b
theorem ruq_id {n : Nat} (h : 1 ≤ n) : RuQ n (.tup [qD 1, qD 0, qD 0, qD 1, qD 0]) := ⟨1, 0, 0, 1, 0, rfl, qs_one.mono h, qs_zero.mono h, qs_zero.mono h, qs_one.mono h, qs_zero.mono h⟩
theorem den_zero {q : Rat} : ((q.den : Int) = 0) ↔ False := ⟨den_ne q, False.elim⟩
theorem q_13 : D.tup [.int 1, .int 3] = qD (1 / 3) := by
  have h1 : (1 / 3 : Rat).num = 1 := by decide +kernel
  have h2 : (1 / 3 : Rat).den = 3 := by decide +kernel
  unfold qD
  rw [h1, h2]
  rfl
theorem q_m25 : D.tup [.int (-2), .int 5] = qD (-2 / 5) := by
  have h1 : (-2 / 5 : Rat).num = -2 := by decide +kernel
  have h2 : (-2 / 5 : Rat).den = 5 := by decide +kernel
  unfold qD
  rw [h1, h2]
  rfl
theorem qs_13 : Qs 9 (1 / 3) := by unfold Qs; decide +kernel
theorem qs_m25 : Qs 9 (-2 / 5) := by unfold Qs; decide +kernel
theorem fin_dec {p : Prop} [Decidable p] {Q : QD} {S : Sto} (hp : p) (h : Q (.bl true) []) : Fin' [] Q (.bl (decide p)) S := by
  rw [decide_eq_true hp]
  exact fin_law h
theorem q_neg {m : Rat} : D.tup [.int (0 - m.num), .int m.den] = qD (-m) := by
  unfold qD
  rw [Rat.neg_num, Rat.neg_den, Int.zero_sub]
/-- the first of the three grounds that parts two rules -/
def pickD (A B C : Prop) [Decidable A] [Decidable B] [Decidable C] : D := if A then if B then if C then .non else .tup [qD 1, qD 1] else .tup [qD 0, qD 1] else .tup [qD 0, qD 0]
theorem pick_a {A B C : Prop} [Decidable A] [Decidable B] [Decidable C] (h : ¬A) : pickD A B C = .tup [qD 0, qD 0] := if_neg h
theorem pick_b {A B C : Prop} [Decidable A] [Decidable B] [Decidable C] (h : A) (k : ¬B) : pickD A B C = .tup [qD 0, qD 1] := by rw [pickD, if_pos h, if_neg k]
theorem pick_c {A B C : Prop} [Decidable A] [Decidable B] [Decidable C] (h : A) (k : B) (l : ¬C) : pickD A B C = .tup [qD 1, qD 1] := by rw [pickD, if_pos h, if_pos k, if_neg l]
theorem pick_n {A B C : Prop} [Decidable A] [Decidable B] [Decidable C] (h : A) (k : B) (l : C) : pickD A B C = .non := by rw [pickD, if_pos h, if_pos k, if_pos l]
theorem ixn_0 {n : Nat} : ixN (n + 1) 0 = some 0 := by unfold ixN; rw [if_pos (by decide), if_pos (by omega)]; rfl
theorem ixn_1 {n : Nat} : ixN (n + 2) 1 = some 1 := by unfold ixN; rw [if_pos (by decide), if_pos (by omega)]; rfl
theorem ixn_2 {n : Nat} : ixN (n + 3) 2 = some 2 := by unfold ixN; rw [if_pos (by decide), if_pos (by omega)]; rfl
theorem ixn_3 {n : Nat} : ixN (n + 4) 3 = some 3 := by unfold ixN; rw [if_pos (by decide), if_pos (by omega)]; rfl
theorem ixn_4 {n : Nat} : ixN (n + 5) 4 = some 4 := by unfold ixN; rw [if_pos (by decide), if_pos (by omega)]; rfl
theorem pick_ttt {i : Decidable True} {j : Decidable True} {k : Decidable True} : @pickD True True True i j k = .non := @pick_n _ _ _ i j k trivial trivial trivial
theorem pick_ttf {i : Decidable True} {j : Decidable True} {k : Decidable False} : @pickD True True False i j k = .tup [qD 1, qD 1] := @pick_c _ _ _ i j k trivial trivial id
theorem pick_tf {C : Prop} {i : Decidable True} {j : Decidable False} {k : Decidable C} : @pickD True False C i j k = .tup [qD 0, qD 1] := @pick_b _ _ _ i j k trivial id
theorem pick_f {B C : Prop} {i : Decidable False} {j : Decidable B} {k : Decidable C} : @pickD False B C i j k = .tup [qD 0, qD 0] := @pick_a _ _ _ i j k id
theorem py_loc {S : Sto} {f n : Nat} {xs : List D} {ds : List PyData} (h : lstAt S n = some xs) (q : toPys S f xs = some ds) : toPy S (f + 1) (.loc n) = some (.list ds) := by
  unfold lstAt at h
  rw [toPy]
  split at h
  · rename_i e
    cases h
    rw [q]
    rfl
  · cases h
theorem eq_ll {S : Sto} {a b f : Nat} {xs ys : List D} {ds es : List PyData} {k : Bool → Prop} (h1 : lstAt S a = some xs) (h2 : lstAt S b = some ys) (h3 : toPys S f xs = some ds) (h4 : toPys S f ys = some es)
    (h5 : SeqAt.shaped (.list ds) = true) (h6 : SeqAt.shaped (.list es) = true) (h : k (PyData.eqvAll ds es)) : eqD (.loc a) (.loc b) S k :=
  eq_by (py_loc h1 h3) (py_loc h2 h4) h5 h6 (by rw [PyData.eqv]; exact h)
theorem eq_bb {a b : Bool} {S : Sto} {k : Bool → Prop} : eqD (.bl a) (.bl b) S k ↔ k (a == b) := by
  rw [eq_iff (f := 1) (g := 1) (d := .bool a) (e := .bool b) rfl rfl rfl rfl, PyData.eqv]
theorem num_lt0 {q : Rat} : (q.num < 0) ↔ q < 0 := by
  rw [← Rat.not_le, ← Rat.num_nonneg]
  omega
theorem den_lt {q : Rat} : ((q.den : Int) < q.num) ↔ 1 < q := by
  rw [Rat.lt_iff, Rat.one_num, Rat.one_den]
  simp
theorem le_as {p q : Rat} : (p.num * (q.den : Int) ≤ q.num * (p.den : Int)) ↔ p ≤ q := (Rat.le_iff p q).symm
def shadeP (x y : Rat) : Prop := 0 ≤ x ∧ x ≤ y ∧ y ≤ 1
instance (x y : Rat) : Decidable (shadeP x y) := by unfold shadeP; infer_instance
/-- a rule that tells shades of the three grounds tells one of each shade -/
theorem shade_all {g p a q b x y : Rat} (h0 : shadeP a b) (h1 : shadeP (p + a) (q + b)) (h2 : shadeP (g + p + a) (q + b)) (h : shadeP x y) : shadeP (g * x + p * y + a) (q * y + b) := by
  obtain ⟨hx, hxy, hy⟩ := h
  obtain ⟨a0, ab, b1⟩ := h0
  obtain ⟨p0, pq, q1⟩ := h1
  obtain ⟨g0, gq, _⟩ := h2
  have u : 0 ≤ 1 - y := by grind
  have v : 0 ≤ y - x := by grind
  have m1 := Rat.mul_nonneg u a0
  have m2 := Rat.mul_nonneg v p0
  have m3 := Rat.mul_nonneg hx g0
  have d0 : 0 ≤ b - a := by grind
  have d1 : 0 ≤ (q + b) - (p + a) := by grind
  have d2 : 0 ≤ (q + b) - (g + p + a) := by grind
  have m4 := Rat.mul_nonneg u d0
  have m5 := Rat.mul_nonneg v d1
  have m6 := Rat.mul_nonneg hx d2
  have e0 : 0 ≤ 1 - b := by grind
  have e1 : 0 ≤ 1 - (q + b) := by grind
  have hy0 : 0 ≤ y := by grind
  have m7 := Rat.mul_nonneg u e0
  have m8 := Rat.mul_nonneg hy0 e1
  have i1 : g * x + p * y + a = (1 - y) * a + (y - x) * (p + a) + x * (g + p + a) := by grind
  have i2 : (q * y + b) - (g * x + p * y + a) = (1 - y) * (b - a) + (y - x) * ((q + b) - (p + a)) + x * ((q + b) - (g + p + a)) := by grind
  have i3 : 1 - (q * y + b) = (1 - y) * (1 - b) + y * (1 - (q + b)) := by grind
  refine ⟨?_, ?_, ?_⟩
  · rw [i1]; grind
  · have : 0 ≤ (q * y + b) - (g * x + p * y + a) := by rw [i2]; grind
    grind
  · have : 0 ≤ 1 - (q * y + b) := by rw [i3]; grind
    grind
theorem shade_of {c t m : Int} (h0 : 0 < m) (hc : 0 ≤ c) (hct : c ≤ t) (ht : t ≤ m) : shadeP (Rat.divInt c m) (Rat.divInt t m) := by
  have e : ∀ i : Int, Rat.divInt i m = (i : Rat) / (m : Rat) := fun i => Rat.divInt_eq_div i m
  have hm : 0 < (m : Rat) := Rat.intCast_pos.mpr h0
  have hi : 0 < (m : Rat)⁻¹ := Rat.inv_pos.mpr hm
  have hi0 := Rat.le_of_lt hi
  rw [e, e, Rat.div_def, Rat.div_def]
  have h1 : (0 : Rat) ≤ (c : Rat) := Rat.intCast_nonneg.mpr hc
  have h2 : (c : Rat) ≤ (t : Rat) := Rat.intCast_le_intCast.mpr hct
  have h3 : (t : Rat) ≤ (m : Rat) := Rat.intCast_le_intCast.mpr ht
  refine ⟨Rat.mul_nonneg h1 hi0, Rat.mul_le_mul_of_nonneg_right h2 hi0, ?_⟩
  have := Rat.mul_le_mul_of_nonneg_right h3 hi0
  rw [Rat.mul_inv_cancel _ (Rat.ne_of_gt hm)] at this
  exact this
theorem lt_asP {p q : Rat} : (p.num * (q.den : Int) < q.num * (p.den : Int)) ↔ p < q := (Rat.lt_iff p q).symm
end Wp

/-! exceptions' classes by a table -/
namespace Wp
open PySem PySem.Spec PyProof.Rows L2

def exsOf (l : List (Nat × XC × Bool)) (k : Nat) (c : XC) : Option Bool := (l.find? fun p => p.1 == k && decide (p.2.1 = c)).map (·.2.2)
theorem exs_mem {l : List (Nat × XC × Bool)} {k : Nat} {c : XC} {b : Bool} (h : exsOf l k c = some b) : (k, c, b) ∈ l := by
  unfold exsOf at h
  cases e : l.find? fun p => p.1 == k && decide (p.2.1 = c) with
  | none => rw [e] at h; cases h
  | some p =>
    rw [e] at h
    have h1 := List.mem_of_find?_eq_some e
    have h2 := List.find?_some e
    simp only [Bool.and_eq_true, beq_iff_eq, decide_eq_true_eq] at h2
    obtain ⟨p1, p2, p3⟩ := p
    obtain ⟨rfl, rfl⟩ := h2
    cases h
    exact h1
theorem ex_one {f : XC → Option Bool} {c : XC} : exAny f [c] = f c := by
  unfold exAny
  cases f c with
  | none => rfl
  | some b => cases b <;> rfl
theorem ex_yes {f : XC → Option Bool} {c : XC} {r : List XC} (h : f c = some true) : exAny f (c :: r) = some true := by
  rw [exAny, h]
theorem ex_no {f : XC → Option Bool} {c : XC} {r : List XC} (h : f c = some false) : exAny f (c :: r) = exAny f r := by
  rw [exAny, h]
theorem kit_cls {K : PySem.W.Frag} {a C : Addr} {b : Bool} (h : PySem.W.subIn K (.ref a) (.ref C) = some b) (hd : PySem.W.hasDictIn K C = true) (ht : PySem.W.typeIn K (.ref C) = some (.type "type")) : PySem.W.kitCls K (.ref a) (.ref C) = some b := by
  obtain ⟨cd, hc, _⟩ := PySem.W.any_some hd
  have e2 : ((PySem.W.clsIn K C).isSome && PySem.W.typeIn K (.ref C) == some (.type "type")) = true := by rw [hc, ht] <;> rfl
  show (if ((PySem.W.clsIn K C).isSome && PySem.W.typeIn K (.ref C) == some (.type "type")) = true then PySem.W.subIn K (.ref a) (.ref C) else none) = some b
  rw [if_pos e2]
  exact h
theorem kit_ref {K : PySem.W.Frag} {a C : Addr} {b : Bool} (h : PySem.W.subIn K (.ref a) (.ref C) = some b) (hd : PySem.W.hasDictIn K C = true) (ht : PySem.W.typeIn K (.ref C) = some (.type "type")) (hn : (Value.ref a == Value.ref C) = false ∨ b = true) : PySem.W.kitOne K (.ref a) (.ref C) = some b := by
  unfold PySem.W.kitOne
  by_cases e : (Value.ref a == Value.ref C) = true
  · rw [if_pos e]
    rcases hn with hn | hn
    · rw [hn] at e; cases e
    · rw [hn]
  · rw [if_neg e]
    exact kit_cls h hd ht
theorem kit_ve {K : PySem.W.Frag} {a : Addr} (h : PySem.W.subIn K (.ref a) (.type "ValueError") = some true) : PySem.W.kitOne K (.ref a) (.type "ValueError") = some true := by
  unfold PySem.W.kitOne
  rw [if_neg (show ¬ (Value.ref a == Value.type "ValueError") = true from by simp)]
  show (if PySem.W.kitMeta "ValueError" = true then PySem.W.subIn K (.ref a) (.type "ValueError") else none) = some true
  rw [if_pos (by decide +kernel)]
  exact h
/-! ### numbers of sixteen -/
def goodD : D → Bool
  | .int i => decide (0 ≤ i ∧ i ≤ 16)
  | _ => false
/-- things that are asked for their types, and are no objects -/
def ThD : D → Prop
  | .int _ => True
  | .bl _ => True
  | .non => True
  | .str _ => True
  | .tup _ => True
  | _ => False
def c16 : Ctr := fun ds S Q _ => ∃ d, ds = [d] ∧ ThD d ∧ Q (.bl (goodD d)) S
theorem m16 : MonC c16 := fun _ _ _ _ _ _ hq _ ⟨d, e, h, z⟩ => ⟨d, e, h, hq _ _ z⟩
theorem good_int {d : D} (h : goodD d = true) : ∃ i : Int, d = .int i ∧ 0 ≤ i ∧ i ≤ 16 := by
  cases d with
  | int i => exact ⟨i, rfl, (of_decide_eq_true h).1, (of_decide_eq_true h).2⟩
  | _ => cases h
theorem sz16i {i : Int} (h : 0 ≤ i ∧ i ≤ 16) : Sz 5 i := Sz.of_lt h.1 (by omega)
theorem qs16 {i : Int} (h : 0 ≤ i ∧ i ≤ 16) : Qs 5 (Rat.divInt i 16) := qs_div (by decide) (sz16i h) (by unfold Sz; decide)
theorem s9_16 : Sz 9000 16 := Sz.mono (m := 5) (by unfold Sz; decide) (by decide)
/-! ### classes by tables -/
def mthOf (l : List (Nat × Nat × Nat)) (C m : Nat) : Option Nat := (l.find? fun p => p.1 == C && p.2.1 == m).map (·.2.2)
theorem mth_mem {l : List (Nat × Nat × Nat)} {C m f : Nat} (h : mthOf l C m = some f) : (C, m, f) ∈ l := by
  unfold mthOf at h
  cases e : l.find? fun p => p.1 == C && p.2.1 == m with
  | none => rw [e] at h; cases h
  | some p =>
    rw [e] at h
    have h1 := List.mem_of_find?_eq_some e
    have h2 := List.find?_some e
    simp only [Bool.and_eq_true, beq_iff_eq] at h2
    obtain ⟨p1, p2, p3⟩ := p
    obtain ⟨rfl, rfl⟩ := h2
    cases h
    exact h1
def isaG (l : List (TyC × Cl × Bool)) (t : TyC) (c : Cl) : Option Bool := match isaB t c with
  | some b => some b
  | none => (l.find? fun p => decide (p.1 = t) && decide (p.2.1 = c)).map (·.2.2)
theorem isaG_or {l : List (TyC × Cl × Bool)} {t : TyC} {c : Cl} {b : Bool} (h : isaG l t c = some b) : isaB t c = some b ∨ (t, c, b) ∈ l := by
  unfold isaG at h
  cases e0 : isaB t c with
  | some b' => rw [e0] at h; exact .inl h
  | none =>
    rw [e0] at h
    refine .inr ?_
    cases e : l.find? fun p => decide (p.1 = t) && decide (p.2.1 = c) with
    | none => rw [e] at h; cases h
    | some p =>
      rw [e] at h
      have h1 := List.mem_of_find?_eq_some e
      have h2 := List.find?_some e
      simp only [Bool.and_eq_true, decide_eq_true_eq] at h2
      obtain ⟨p1, p2, p3⟩ := p
      obtain ⟨rfl, rfl⟩ := h2
      cases h
      exact h1
theorem ty_ins {S : Sto} {n C : Nat} {fs : List (Nat × D)} (h : S[n]? = some (.ins C fs)) : tyC S (.loc n) = some (.own C) := by
  unfold tyC
  simp only [h]
theorem eq_sb {x y : Str} {b : Bool} {S : Sto} {k : Bool → Prop} (hx : SeqAt.shaped (.str x) = true) (hy : SeqAt.shaped (.str y) = true) (h : (x == y) = b) : eqD (.str x) (.str y) S k ↔ k b := by
  rw [eq_iff (f := 1) (g := 1) (d := .str x) (e := .str y) rfl rfl hx hy, PyData.eqv, h]
theorem get_old {S T : Sto} {n : Nat} {o : O} (h : S[n]? = some o) : (S ++ T)[n]? = some o := by
  rw [List.getElem?_append_left (List.getElem?_eq_some_iff.mp h).1]
  exact h
/-- what was made first may stay, what came behind it goes -/
theorem fin_cut {S T J : Sto} {Q : QD} {d : D} (hT : ∀ o ∈ T, cloO (S.length + T.length) o) (hd : cloD (S.length + T.length) d) (h : Q d (S ++ T)) : Fin' S Q d (S ++ (T ++ J)) := by
  refine .inr ⟨S.length + T.length, ⟨Nat.le_add_right _ _, by simp only [List.length_append]; omega, fun i o hi ho => ?_⟩, hd, ?_⟩
  · by_cases hs : i < S.length
    · rw [List.getElem?_append_left hs] at ho
      exact .inl ho
    · rw [List.getElem?_append_right (by omega), List.getElem?_append_left (by omega)] at ho
      exact .inr (hT o (List.mem_of_getElem? ho))
  · rw [← List.append_assoc, List.take_left' (by rw [List.length_append])]
    exact h
theorem clo_ins {n C : Nat} : cloO n (.ins C []) := fun p hp => by cases hp
theorem dv_self {n : Int} (h : 0 < n) : Rat.divInt n n = 1 := Rat.divInt_self' (by omega)
theorem dv_sub {a b n : Int} (h : 0 < n) : Rat.divInt (a - b) n = Rat.divInt a n - Rat.divInt b n := by
  have z : (n : Rat) ≠ 0 := fun e => by have := Rat.intCast_eq_zero_iff.mp e; omega
  rw [Rat.divInt_eq_div, Rat.divInt_eq_div, Rat.divInt_eq_div, Rat.intCast_sub, Rat.div_def, Rat.div_def, Rat.div_def]
  grind
theorem dv_add {a b n : Int} (h : 0 < n) : Rat.divInt (a + b) n = Rat.divInt a n + Rat.divInt b n := by
  have z : (n : Rat) ≠ 0 := fun e => by have := Rat.intCast_eq_zero_iff.mp e; omega
  rw [Rat.divInt_eq_div, Rat.divInt_eq_div, Rat.divInt_eq_div, Rat.intCast_add, Rat.div_def, Rat.div_def, Rat.div_def]
  grind
/-! ### the five words -/
def manN (w : Str) : Nat := if w == "over" then 0 else if w == "under" then 1 else if w == "screen" then 2 else if w == "times" then 3 else if w == "atop" then 4 else 5
def manS : Nat → Sto
  | 0 => [.ins 1 []]
  | 1 => [.ins 1 [], .ins 2 []]
  | 2 => [.ins 1 [], .ins 2 [], .ins 3 []]
  | 3 => [.ins 1 [], .ins 2 [], .ins 3 [], .ins 4 []]
  | _ => [.ins 1 [], .ins 2 [], .ins 3 [], .ins 4 [], .ins 5 []]
theorem man_0 : manN "over" = 0 := by decide +kernel
theorem mans_0 : manS 0 = [.ins 1 []] := rfl
theorem man_1 : manN "under" = 1 := by decide +kernel
theorem mans_1 : manS 1 = [.ins 1 [], .ins 2 []] := rfl
theorem man_2 : manN "screen" = 2 := by decide +kernel
theorem mans_2 : manS 2 = [.ins 1 [], .ins 2 [], .ins 3 []] := rfl
theorem man_3 : manN "times" = 3 := by decide +kernel
theorem mans_3 : manS 3 = [.ins 1 [], .ins 2 [], .ins 3 [], .ins 4 []] := rfl
theorem man_4 : manN "atop" = 4 := by decide +kernel
theorem mans_4 : manS 4 = [.ins 1 [], .ins 2 [], .ins 3 [], .ins 4 [], .ins 5 []] := rfl
theorem man_word {w : Str} (h : manN w < 5) : w = "over" ∨ w = "under" ∨ w = "screen" ∨ w = "times" ∨ w = "atop" := by
  unfold manN at h
  split at h
  · rename_i e; exact .inl (beq_iff_eq.mp e)
  split at h
  · rename_i e; exact .inr (.inl (beq_iff_eq.mp e))
  split at h
  · rename_i e; exact .inr (.inr (.inl (beq_iff_eq.mp e)))
  split at h
  · rename_i e; exact .inr (.inr (.inr (.inl (beq_iff_eq.mp e))))
  split at h
  · rename_i e; exact .inr (.inr (.inr (.inr (beq_iff_eq.mp e))))
  omega
end Wp

/-! loops and comprehensions by an invariant over what is left; data read off; slices by places -/
namespace Wp
open PySem PySem.Spec PyProof.Rows L2

theorem for_ind {stay : Sto → Prop} {body : D → Env → Sto → Z → Prop} {z : Z} (I : List D → Env → Sto → Prop) (hst : ∀ r ρ S, I r ρ S → stay S) (hend : ∀ ρ S, I [] ρ S → z.nx ρ S)
    (hturn : ∀ x r ρ S, I (x :: r) ρ S → ∀ k : Env → Sto → Prop, (∀ ρ' S', I r ρ' S' → k ρ' S') → body x ρ S { z with nx := k, ct := k, bk := z.nx }) : ∀ xs ρ S, I xs ρ S → forD stay body xs ρ S z
  | [], ρ, S, h => ⟨hst _ _ _ h, hend _ _ h⟩
  | x :: r, ρ, S, h => ⟨hst _ _ _ h, hturn x r ρ S h _ fun ρ' S' h' => for_ind I hst hend hturn r ρ' S' h'⟩
theorem lc_ind {n : Nat} {stay : Sto → Prop} {bind : D → (Env → Prop) → Prop} {test : Env → Sto → (Bool → Sto → Prop) → Prop} {elt : Env → Sto → QD → Prop} {k : Sto → Prop} (I : List D → Sto → Prop) (hst : ∀ r S, I r S → stay S) (hend : ∀ S, I [] S → k S)
    (hturn : ∀ x r S, I (x :: r) S → ∀ P : Sto → Prop, (∀ S', I r S' → P S') → bind x fun ρ' => test ρ' S fun b S1 => Br b (elt ρ' S1 fun d S2 => ∃ acc, lstAt S2 n = some acc ∧ acc.length < 16777216 ∧ P (setLst S2 n (acc ++ [d]))) (P S1)) :
    ∀ xs S, I xs S → lcD n stay bind test elt xs S k
  | [], S, h => ⟨hst _ _ h, hend _ h⟩
  | x :: r, S, h => ⟨hst _ _ h, hturn x r S h _ fun S' h' => lc_ind I hst hend hturn r S' h'⟩
theorem lc_fa {α : Type} {S0 : Sto} {n : Nat} {stay : Sto → Prop} {bind : D → (Env → Prop) → Prop} {test : Env → Sto → (Bool → Sto → Prop) → Prop} {elt : Env → Sto → QD → Prop} {k : Sto → Prop} (hn : n = S0.length) (f : α → D) (g : α → Option D) (hst : ∀ acc, stay (S0 ++ [.lst acc])) :
    ∀ (xs : List α) (acc0 : List D), (∀ x ∈ xs, ∀ acc, ∀ P : Option D → Sto → Prop, P (g x) (S0 ++ [.lst acc]) → bind (f x) fun ρ' => test ρ' (S0 ++ [.lst acc]) fun b S1 => Br b (elt ρ' S1 fun d S2 => P (some d) S2) (P none S1)) →
    acc0.length + xs.length ≤ 16777216 → k (S0 ++ [.lst (acc0 ++ xs.filterMap g)]) → lcD n stay bind test elt (xs.map f) (S0 ++ [.lst acc0]) k
  | [], acc0, _, _, hk => ⟨hst _, by simpa using hk⟩
  | x :: r, acc0, h, hl, hk => by
    refine ⟨hst _, h x List.mem_cons_self acc0 (fun o S1 => match o with
      | some d => ∃ acc, lstAt S1 n = some acc ∧ acc.length < 16777216 ∧ lcD n stay bind test elt (r.map f) (setLst S1 n (acc ++ [d])) k
      | none => lcD n stay bind test elt (r.map f) S1 k) ?_⟩
    have hl' : acc0.length + (r.length + 1) ≤ 16777216 := hl
    subst hn
    cases e : g x with
    | none =>
      have hk' : k (S0 ++ [.lst (acc0 ++ r.filterMap g)]) := by rw [List.filterMap_cons_none e] at hk; exact hk
      exact lc_fa rfl f g hst r acc0 (fun y hy => h y (List.mem_cons_of_mem _ hy)) (by omega) hk'
    | some d =>
      refine ⟨acc0, by rw [lst_at0, lst_hit], by omega, ?_⟩
      rw [set_at0, set_hit]
      refine lc_fa rfl f g hst r (acc0 ++ [d]) (fun y hy => h y (List.mem_cons_of_mem _ hy)) (by rw [List.length_append, List.length_singleton]; omega) ?_
      rw [List.filterMap_cons_some e] at hk
      rw [List.append_assoc]
      exact hk
theorem lc_map {α : Type} {S0 : Sto} {n : Nat} {stay : Sto → Prop} {bind : D → (Env → Prop) → Prop} {test : Env → Sto → (Bool → Sto → Prop) → Prop} {elt : Env → Sto → QD → Prop} {k : Sto → Prop} (hn : n = S0.length) (f g : α → D) (xs : List α) (hst : ∀ acc, stay (S0 ++ [.lst acc]))
    (h : ∀ x ∈ xs, ∀ acc, ∀ P : Option D → Sto → Prop, P (some (g x)) (S0 ++ [.lst acc]) → bind (f x) fun ρ' => test ρ' (S0 ++ [.lst acc]) fun b S1 => Br b (elt ρ' S1 fun d S2 => P (some d) S2) (P none S1))
    (hl : xs.length ≤ 16777216) (hk : k (S0 ++ [.lst (xs.map g)])) : lcD n stay bind test elt (xs.map f) (S0 ++ [.lst []]) k :=
  lc_fa hn f (fun x => some (g x)) hst xs [] h (by simpa using hl) (by rw [List.nil_append, List.filterMap_eq_map' (f := g)]; exact hk)
/-! ### what was there stays -/
def Kept (S S' : Sto) : Prop := ∀ (n : Nat) o, S[n]? = some o → S'[n]? = some o
theorem Kept.refl {S : Sto} : Kept S S := fun _ _ h => h
theorem Kept.trans {S T U : Sto} (a : Kept S T) (b : Kept T U) : Kept S U := fun n o h => b n o (a n o h)
theorem Kept.app {S S' T : Sto} (h : Kept S S') : Kept S (S' ++ T) := fun n o q => get_old (h n o q)
theorem lst_of {S : Sto} {n : Nat} {xs : List D} : lstAt S n = some xs ↔ S[n]? = some (.lst xs) := by
  unfold lstAt
  refine ⟨fun h => ?_, fun h => by rw [h]⟩
  split at h
  · rename_i e; rw [e]; cases h; rfl
  · cases h
theorem Kept.lst {S S' : Sto} (h : Kept S S') {n : Nat} {xs : List D} (q : lstAt S n = some xs) : lstAt S' n = some xs := lst_of.mpr (h _ _ (lst_of.mp q))
theorem lst_len {S : Sto} {n : Nat} {xs : List D} (q : lstAt S n = some xs) : n < S.length := (List.getElem?_eq_some_iff.mp (lst_of.mp q)).1
theorem Kept.len {S S' : Sto} (h : Kept S S') : S.length ≤ S'.length := by
  by_cases e : S.length = 0
  · omega
  · have := h (S.length - 1) _ (List.getElem?_eq_getElem (by omega))
    have := (List.getElem?_eq_some_iff.mp this).1
    omega
theorem set_len {S : Sto} {n : Nat} {xs : List D} : (setLst S n xs).length = S.length := List.length_set
theorem lst_set_eq {S : Sto} {n : Nat} {xs : List D} (h : n < S.length) : lstAt (setLst S n xs) n = some xs := lst_of.mpr (List.getElem?_set_self h)
theorem lst_set_ne {S : Sto} {n m : Nat} {xs : List D} (h : n ≠ m) : lstAt (setLst S n xs) m = lstAt S m := by
  unfold lstAt setLst
  rw [List.getElem?_set_ne h]
theorem Kept.set {S S' : Sto} (h : Kept S S') {n : Nat} {xs : List D} (hn : S.length ≤ n) : Kept S (setLst S' n xs) := fun k o q => by
  have hk := (List.getElem?_eq_some_iff.mp q).1
  unfold setLst
  rw [List.getElem?_set_ne (by omega)]
  exact h k o q
theorem lst_app_ge {S T : Sto} {n : Nat} (h : S.length ≤ n) : lstAt (S ++ T) n = lstAt T (n - S.length) := by
  unfold lstAt
  rw [List.getElem?_append_right h]
theorem lst_app_lt {S T : Sto} {n : Nat} (h : n < S.length) : lstAt (S ++ T) n = lstAt S n := by
  unfold lstAt
  rw [List.getElem?_append_left h]
/-! ### slices -/
theorem cut_hi {xs : List D} {i : Int} (h0 : 0 ≤ i) : cutD xs none (some i) = xs.take i.toNat := by
  unfold cutD
  obtain ⟨k, rfl⟩ := Int.eq_ofNat_of_zero_le h0
  rw [HT.sIx_none, HT.sIx_nat, List.drop_zero, Nat.sub_zero, Int.toNat_natCast]
  rcases Nat.le_total k xs.length with h | h
  · rw [Nat.min_eq_left h]
  · rw [Nat.min_eq_right h, List.take_of_length_le h, List.take_of_length_le (Nat.le_refl _)]
theorem cut_lo {xs : List D} {i : Int} (h0 : 0 ≤ i) : cutD xs (some i) none = xs.drop i.toNat := by
  unfold cutD
  obtain ⟨k, rfl⟩ := Int.eq_ofNat_of_zero_le h0
  rw [HT.sIx_none, HT.sIx_nat, Int.toNat_natCast]
  rcases Nat.le_total k xs.length with h | h
  · rw [Nat.min_eq_left h, List.take_of_length_le (by rw [List.length_drop]; omega)]
  · rw [Nat.min_eq_right h, List.drop_of_length_le h, List.drop_of_length_le (Nat.le_refl _), List.take_nil]
theorem cut_two {xs : List D} {i j : Int} (h0 : 0 ≤ i) (h1 : i ≤ j) : cutD xs (some i) (some j) = (xs.drop i.toNat).take (j - i).toNat := by
  unfold cutD
  obtain ⟨k, rfl⟩ := Int.eq_ofNat_of_zero_le h0
  obtain ⟨l, rfl⟩ := Int.eq_ofNat_of_zero_le (Int.le_trans h0 h1)
  have e : ((l : Int) - (k : Int)).toNat = l - k := by omega
  rw [HT.sIx_nat, HT.sIx_nat, Int.toNat_natCast, e]
  have hkl : k ≤ l := by omega
  rcases Nat.le_total l xs.length with h | h
  · rw [Nat.min_eq_left h, Nat.min_eq_left (Nat.le_trans hkl h)]
  · rw [Nat.min_eq_right h]
    rcases Nat.le_total k xs.length with h2 | h2
    · rw [Nat.min_eq_left h2, List.take_of_length_le (by rw [List.length_drop]; omega), List.take_of_length_le (by rw [List.length_drop]; omega)]
    · rw [Nat.min_eq_right h2, List.drop_of_length_le h2, List.drop_of_length_le (Nat.le_refl _), List.take_nil, List.take_nil]
theorem sl_rol {xs : List D} {lo hi : Option Int} {S : Sto} {Q : QD} : slD (.rol xs) lo hi S Q ↔ Q (.loc S.length) (S ++ [.lst (cutD xs lo hi)]) := Iff.rfl
theorem sl_loc {n : Nat} {lo hi : Option Int} {S : Sto} {Q : QD} : slD (.loc n) lo hi S Q ↔ ∃ xs, lstAt S n = some xs ∧ Q (.loc S.length) (S ++ [.lst (cutD xs lo hi)]) := Iff.rfl
theorem sl_tup {xs : List D} {lo hi : Option Int} {S : Sto} {Q : QD} : slD (.tup xs) lo hi S Q ↔ ¬ (HT.sIx xs.length 0 lo = 0 ∧ HT.sIx xs.length xs.length hi = xs.length) ∧ Q (.tup (cutD xs lo hi)) S := Iff.rfl
theorem lcD_def {n : Nat} {stay : Sto → Prop} {bind : D → (Env → Prop) → Prop} {test : Env → Sto → (Bool → Sto → Prop) → Prop} {elt : Env → Sto → QD → Prop} {xs : List D} {S : Sto} {k : Sto → Prop} : lcD n stay bind test elt xs S k ↔ lcD n stay bind test elt xs S k := Iff.rfl
/-! ### data read off, level by level -/
mutual
inductive Py (S : Sto) : Nat → D → PyData → Prop
  | non {k : Nat} : Py S k .non .none
  | bl {k : Nat} (b : Bool) : Py S k (.bl b) (.bool b)
  | int {k : Nat} (i : Int) : Py S k (.int i) (.int i)
  | str {k : Nat} {x : Str} : PyData.canLay0 (.str x) = true → Py S k (.str x) (.str x)
  | key {k : Nat} {ks : List L2.Key} : PyData.canLayAll0 (ks.map keyPy) = true → Py S (k + 1) (.key ks) (.tuple (ks.map keyPy))
  | tup {k : Nat} {xs : List D} {ds : List PyData} : Pys S k xs ds → Py S (k + 1) (.tup xs) (.tuple ds)
  | rol {k : Nat} {xs : List D} {ds : List PyData} : Pys S k xs ds → Py S (k + 1) (.rol xs) (.list ds)
  | loc {k n : Nat} {xs : List D} {ds : List PyData} : lstAt S n = some xs → Pys S k xs ds → Py S (k + 1) (.loc n) (.list ds)
inductive Pys (S : Sto) : Nat → List D → List PyData → Prop
  | nil {k : Nat} : Pys S k [] []
  | cons {k : Nat} {x : D} {d : PyData} {xs : List D} {ds : List PyData} : Py S k x d → Pys S k xs ds → Pys S k (x :: xs) (d :: ds)
end
mutual
theorem Py.up {S : Sto} {k : Nat} : ∀ {x : D} {d : PyData}, Py S k x d → ∀ {l : Nat}, k ≤ l → Py S l x d
  | _, _, .non, _, _ => .non
  | _, _, .bl b, _, _ => .bl b
  | _, _, .int i, _, _ => .int i
  | _, _, .str h, _, _ => .str h
  | _, _, .key h, l, hl => match l, hl with
    | _ + 1, _ => .key h
  | _, _, .tup h, l, hl => match l, hl with
    | _ + 1, hl => .tup (h.up (Nat.le_of_succ_le_succ hl))
  | _, _, .rol h, l, hl => match l, hl with
    | _ + 1, hl => .rol (h.up (Nat.le_of_succ_le_succ hl))
  | _, _, .loc h0 h, l, hl => match l, hl with
    | _ + 1, hl => .loc h0 (h.up (Nat.le_of_succ_le_succ hl))
theorem Pys.up {S : Sto} {k : Nat} : ∀ {x : List D} {d : List PyData}, Pys S k x d → ∀ {l : Nat}, k ≤ l → Pys S l x d
  | _, _, .nil, _, _ => .nil
  | _, _, .cons h r, _, hl => .cons (h.up hl) (r.up hl)
end
mutual
theorem Py.to {S : Sto} {k : Nat} : ∀ {x : D} {d : PyData}, Py S k x d → (∃ f, toPy S f x = some d) ∧ d.canLay0 = true ∧ d.depth ≤ k
  | _, _, .non => ⟨⟨0, rfl⟩, rfl, Nat.zero_le _⟩
  | _, _, .bl b => ⟨⟨0, rfl⟩, rfl, Nat.zero_le _⟩
  | _, _, .int i => ⟨⟨0, rfl⟩, rfl, Nat.zero_le _⟩
  | _, _, .str h => ⟨⟨0, rfl⟩, h, Nat.zero_le _⟩
  | _, _, .key h => ⟨⟨0, rfl⟩, h, by
    rw [PyData.depth]
    have : ∀ ks : List L2.Key, PyData.depthAll (ks.map keyPy) = 0 := fun ks => by
      induction ks with
      | nil => rfl
      | cons q r ih =>
        rw [List.map_cons, PyData.depthAll, ih]
        cases q <;> rfl
    rw [this]
    omega⟩
  | _, _, .tup h => by
    obtain ⟨⟨f, h1⟩, h2, h3⟩ := h.to
    exact ⟨⟨f + 1, by rw [toPy, h1]; rfl⟩, h2, Nat.succ_le_succ h3⟩
  | _, _, .rol h => by
    obtain ⟨⟨f, h1⟩, h2, h3⟩ := h.to
    exact ⟨⟨f + 1, by rw [toPy, h1]; rfl⟩, h2, Nat.succ_le_succ h3⟩
  | _, _, .loc h0 h => by
    obtain ⟨⟨f, h1⟩, h2, h3⟩ := h.to
    exact ⟨⟨f + 1, py_loc h0 h1⟩, h2, Nat.succ_le_succ h3⟩
theorem Pys.to {S : Sto} {k : Nat} : ∀ {x : List D} {d : List PyData}, Pys S k x d → (∃ f, toPys S f x = some d) ∧ PyData.canLayAll0 d = true ∧ PyData.depthAll d ≤ k
  | _, _, .nil => ⟨⟨0, rfl⟩, rfl, Nat.zero_le _⟩
  | _, _, .cons h r => by
    obtain ⟨⟨f, h1⟩, h2, h3⟩ := h.to
    obtain ⟨⟨g, r1⟩, r2, r3⟩ := r.to
    have g1 := py_le h1 (Nat.le_max_left f g)
    have g2 : toPys S (max f g) _ = some _ := pys_le r1 (Nat.le_max_right f g)
    refine ⟨⟨max f g + 1, by rw [toPys, g1, g2]⟩, ?_, ?_⟩
    · rw [PyData.canLayAll0, h2, r2]; rfl
    · rw [PyData.depthAll]; exact Nat.max_le.mpr ⟨h3, r3⟩
end
theorem Py.shaped {S : Sto} {x : D} {d : PyData} (h : Py S 64 x d) : SeqAt.shaped d = true := by
  obtain ⟨_, h2, h3⟩ := h.to
  unfold SeqAt.shaped
  rw [h2, decide_eq_true h3]
  rfl
theorem eq_py {S : Sto} {x y : D} {d e : PyData} {k : Bool → Prop} (h1 : Py S 64 x d) (h2 : Py S 64 y e) : eqD x y S k ↔ k (PyData.eqv d e) := by
  obtain ⟨⟨f, a⟩, _, _⟩ := h1.to
  obtain ⟨⟨g, b⟩, _, _⟩ := h2.to
  exact eq_iff a b h1.shaped h2.shaped
/-- alike data -/
theorem eq_pys {S : Sto} {x y : D} {d : PyData} {k : Bool → Prop} (h1 : Py S 64 x d) (h2 : Py S 64 y d) (h : k true) : eqD x y S k := by
  rw [eq_py h1 h2, SeqAt.eqv_refl d h1.to.2.1]
  exact h
theorem eq_i2 {a b c d : Int} {S : Sto} {k : Bool → Prop} : eqD (.tup [.int a, .int b]) (.tup [.int c, .int d]) S k ↔ k (decide (a = c ∧ b = d)) := by
  rw [eq_py (.tup (.cons (.int a) (.cons (.int b) .nil))) (.tup (.cons (.int c) (.cons (.int d) .nil))), PyData.eqv]
  simp only [PyData.eqvAll, PyData.eqv, Bool.and_true, Bool.decide_and]
  rfl
theorem Pys.map {S : Sto} {k : Nat} {α : Type} {f : α → D} {g : α → PyData} (h : ∀ a, Py S k (f a) (g a)) : ∀ xs : List α, Pys S k (xs.map f) (xs.map g)
  | [] => .nil
  | a :: r => .cons (h a) (Pys.map h r)
theorem Py.q {S : Sto} {k : Nat} (q : Rat) : Py S (k + 1) (qD q) (pD q) := .tup (.cons (.int _) (.cons (.int _) .nil))
theorem no_pylong {i j : Int} {n : Nat} (h : Sz n j) (hj : j ≠ 0) (hn : n ≤ 9000) : Builtin.divisionGoesByPylong i j = false := PyProof.noPylong_of_log2 ((Nat.log2_lt (by omega)).mpr (h.mono hn))
/-- what stands behind the first things: cut away -/
theorem fin_tail {S T J : Sto} {Q : QD} {d : D} (hT : ∀ o ∈ T, cloO (S.length + T.length) o) (hd : cloD (S.length + T.length) d) (h : Q d (S ++ T)) : Fin' S Q d (S ++ T ++ J) := by
  rw [List.append_assoc]
  exact fin_cut hT hd h
theorem cloDs_map {α : Type} {n : Nat} {f : α → D} (h : ∀ a, cloD n (f a)) : ∀ xs : List α, cloDs n (xs.map f)
  | [] => trivial
  | a :: r => ⟨h a, cloDs_map h r⟩
end Wp

/-! rules and plans in plain Lean: what they tell, that they keep shades, their sizes by a common bottom -/
namespace Wp
open PySem PySem.Spec PyProof.Rows L2

structure Ru where
  g : Rat
  p : Rat
  a : Rat
  q : Rat
  b : Rat
def ruD (r : Ru) : D := .tup [qD r.g, qD r.p, qD r.a, qD r.q, qD r.b]
def Ru.one : Ru := ⟨1, 0, 0, 1, 0⟩
def mru (w : Nat) (s u : Rat) : Ru := match w with
  | 0 => ⟨1 - u, 0, s, 1 - u, u⟩
  | 1 => ⟨1, 0 - s, s, 1 - u, u⟩
  | 2 => ⟨1 - s, 0, s, 1 - u, u⟩
  | 3 => ⟨1 - u + s, 0 - s, s, 1 - u, u⟩
  | _ => ⟨1 - u, s, 0, 1, 0⟩
def Ru.behind (r t : Ru) : Ru := ⟨t.g * r.g, t.g * r.p + t.p * r.q, t.g * r.a + t.p * r.b + t.a, t.q * r.q, t.q * r.b + t.b⟩
def Ru.mix (r : Ru) (m : Rat) : Ru := ⟨1 - m + m * r.g, m * r.p, m * r.a, 1 - m + m * r.q, m * r.b⟩
def Ru.laid (r : Ru) (v : Rat × Rat) : Rat × Rat := (r.g * v.1 + r.p * v.2 + r.a, r.q * v.2 + r.b)
def Ru.stay (r : Ru) : Prop := shadeP r.a r.b ∧ shadeP (r.p + r.a) (r.q + r.b) ∧ shadeP (r.g + r.p + r.a) (r.q + r.b)
theorem Ru.ext' {r t : Ru} (h1 : r.g = t.g) (h2 : r.p = t.p) (h3 : r.a = t.a) (h4 : r.q = t.q) (h5 : r.b = t.b) : r = t := by
  cases r; cases t; simp_all
theorem Ru.one_behind (r : Ru) : Ru.one.behind r = r := by
  unfold Ru.behind Ru.one
  exact Ru.ext' (by grind) (by grind) (by grind) (by grind) (by grind)
theorem Ru.behind_one (r : Ru) : r.behind Ru.one = r := by
  unfold Ru.behind Ru.one
  exact Ru.ext' (by grind) (by grind) (by grind) (by grind) (by grind)
theorem Ru.behind_assoc (r s t : Ru) : (r.behind s).behind t = r.behind (s.behind t) := by
  unfold Ru.behind
  exact Ru.ext' (by grind) (by grind) (by grind) (by grind) (by grind)
theorem Ru.laid_behind (r t : Ru) (v : Rat × Rat) : (r.behind t).laid v = t.laid (r.laid v) := by
  unfold Ru.behind Ru.laid
  exact Prod.ext (by grind) (by grind)
theorem Ru.laid_one (v : Rat × Rat) : Ru.one.laid v = v := by
  unfold Ru.one Ru.laid
  exact Prod.ext (by grind) (by grind)
theorem Ru.laid_mix (r : Ru) (m : Rat) (v : Rat × Rat) : (r.mix m).laid v = ((1 - m) * v.1 + m * (r.laid v).1, (1 - m) * v.2 + m * (r.laid v).2) := by
  unfold Ru.mix Ru.laid
  exact Prod.ext (by grind) (by grind)
/-! ### they keep shades -/
theorem stay_laid {r : Ru} (h : r.stay) {x y : Rat} (k : shadeP x y) : shadeP (r.laid (x, y)).1 (r.laid (x, y)).2 := shade_all h.1 h.2.1 h.2.2 k
theorem sh_00 : shadeP 0 0 := ⟨by decide, by decide, by decide⟩
theorem sh_01 : shadeP 0 1 := ⟨by decide, by decide, by decide⟩
theorem sh_11 : shadeP 1 1 := ⟨by decide, by decide, by decide⟩
theorem stay_iff {r : Ru} : r.stay ↔ shadeP (r.laid (0, 0)).1 (r.laid (0, 0)).2 ∧ shadeP (r.laid (0, 1)).1 (r.laid (0, 1)).2 ∧ shadeP (r.laid (1, 1)).1 (r.laid (1, 1)).2 := by
  have e1 : (r.laid (0, 0)).1 = r.a := by unfold Ru.laid; grind
  have e2 : (r.laid (0, 0)).2 = r.b := by unfold Ru.laid; grind
  have e3 : (r.laid (0, 1)).1 = r.p + r.a := by unfold Ru.laid; grind
  have e4 : (r.laid (0, 1)).2 = r.q + r.b := by unfold Ru.laid; grind
  have e5 : (r.laid (1, 1)).1 = r.g + r.p + r.a := by unfold Ru.laid; grind
  have e6 : (r.laid (1, 1)).2 = r.q + r.b := by unfold Ru.laid; grind
  rw [e1, e2, e3, e4, e5, e6]
  rfl
theorem stay_one : Ru.one.stay := by
  rw [stay_iff]
  simp only [Ru.laid_one]
  exact ⟨sh_00, sh_01, sh_11⟩
theorem stay_behind {r t : Ru} (h : r.stay) (k : t.stay) : (r.behind t).stay := by
  rw [stay_iff]
  simp only [Ru.laid_behind]
  exact ⟨stay_laid k (stay_laid h sh_00), stay_laid k (stay_laid h sh_01), stay_laid k (stay_laid h sh_11)⟩
theorem sh_blend {m x y u v : Rat} (h0 : 0 ≤ m) (h1 : m ≤ 1) (h : shadeP x y) (k : shadeP u v) : shadeP ((1 - m) * x + m * u) ((1 - m) * y + m * v) := by
  obtain ⟨a1, a2, a3⟩ := h
  obtain ⟨b1, b2, b3⟩ := k
  have n0 : 0 ≤ 1 - m := by grind
  have i1 := Rat.mul_nonneg n0 a1
  have i2 := Rat.mul_nonneg h0 b1
  have i3 := Rat.mul_nonneg n0 (show 0 ≤ y - x by grind)
  have i4 := Rat.mul_nonneg h0 (show 0 ≤ v - u by grind)
  have i5 := Rat.mul_nonneg n0 (show 0 ≤ 1 - y by grind)
  have i6 := Rat.mul_nonneg h0 (show 0 ≤ 1 - v by grind)
  exact ⟨by grind, by grind, by grind⟩
theorem stay_mix {r : Ru} {m : Rat} (h : r.stay) (h0 : 0 ≤ m) (h1 : m ≤ 1) : (r.mix m).stay := by
  rw [stay_iff]
  simp only [Ru.laid_mix]
  exact ⟨sh_blend h0 h1 sh_00 (stay_laid h sh_00), sh_blend h0 h1 sh_01 (stay_laid h sh_01), sh_blend h0 h1 sh_11 (stay_laid h sh_11)⟩
theorem stay_mru {w : Nat} {s u : Rat} (h : shadeP s u) : (mru w s u).stay := by
  obtain ⟨h1, h2, h3⟩ := h
  unfold mru
  split <;> (refine ⟨⟨?_, ?_, ?_⟩, ⟨?_, ?_, ?_⟩, ?_, ?_, ?_⟩) <;> dsimp only <;> grind
theorem sh_weak {m x y : Rat} (h0 : 0 ≤ m) (h1 : m ≤ 1) (h : shadeP x y) : shadeP (m * x) (m * y) := by
  have := sh_blend h0 h1 sh_00 h
  have e1 : (1 - m) * 0 + m * x = m * x := by grind
  have e2 : (1 - m) * 0 + m * y = m * y := by grind
  rw [e1, e2] at this
  exact this
/-! ### a common bottom -/
def Fr (N : Nat) (q : Rat) : Prop := ∃ i : Int, q * (N : Int) = (i : Rat)
theorem Fr.zero {N : Nat} : Fr N 0 := ⟨0, by rw [Rat.zero_mul]; rfl⟩
theorem Fr.one {N : Nat} : Fr N 1 := ⟨N, by rw [Rat.one_mul]⟩
theorem Fr.add {N : Nat} {p q : Rat} (h : Fr N p) (k : Fr N q) : Fr N (p + q) := by
  obtain ⟨i, hi⟩ := h
  obtain ⟨j, hj⟩ := k
  exact ⟨i + j, by rw [Rat.intCast_add, ← hi, ← hj]; grind⟩
theorem Fr.sub {N : Nat} {p q : Rat} (h : Fr N p) (k : Fr N q) : Fr N (p - q) := by
  obtain ⟨i, hi⟩ := h
  obtain ⟨j, hj⟩ := k
  exact ⟨i - j, by rw [Rat.intCast_sub, ← hi, ← hj]; grind⟩
theorem Fr.mul {N M : Nat} {p q : Rat} (h : Fr N p) (k : Fr M q) : Fr (N * M) (p * q) := by
  obtain ⟨i, hi⟩ := h
  obtain ⟨j, hj⟩ := k
  refine ⟨i * j, ?_⟩
  rw [Rat.intCast_mul, ← hi, ← hj, Int.natCast_mul, Rat.intCast_mul]
  grind
theorem Fr.up {N : Nat} (M : Nat) {p : Rat} (h : Fr N p) : Fr (N * M) p := by
  have := h.mul (Fr.one (N := M))
  rw [Rat.mul_one] at this
  exact this
theorem Fr.up' {N : Nat} (M : Nat) {p : Rat} (h : Fr N p) : Fr (M * N) p := by rw [Nat.mul_comm]; exact h.up M
theorem Fr.den (q : Rat) : Fr q.den q := ⟨q.num, by
  have h := Rat.num_divInt_den q
  have z : ((q.den : Int) : Rat) ≠ 0 := fun e => by have := Rat.intCast_eq_zero_iff.mp e; have := q.den_nz; omega
  rw [Rat.divInt_eq_div, Rat.div_def] at h
  have e : q = (q.num : Rat) * ((q.den : Int) : Rat)⁻¹ := h.symm
  generalize ((q.den : Int) : Rat) = d at *
  generalize (q.num : Rat) = n at *
  rw [e, Rat.mul_assoc, Rat.inv_mul_cancel _ z, Rat.mul_one]⟩
theorem Fr.qs {N k : Nat} {q : Rat} (h : Fr N q) (h0 : 0 < N) (hk : N ≤ 2 ^ k) (a : -2 ≤ q) (b : q ≤ 2) : Qs (k + 2) q := by
  obtain ⟨i, hi⟩ := h
  have z : ((N : Int) : Rat) ≠ 0 := fun e => by have := Rat.intCast_eq_zero_iff.mp e; omega
  have hp : 0 < ((N : Int) : Rat) := Rat.intCast_pos.mpr (by omega)
  have e : q = Rat.divInt i N := by
    rw [Rat.divInt_eq_div, Rat.div_def, ← hi, Rat.mul_assoc, Rat.mul_inv_cancel _ z, Rat.mul_one]
  have m1 := Rat.mul_le_mul_of_nonneg_right a (Rat.le_of_lt hp)
  have m2 := Rat.mul_le_mul_of_nonneg_right b (Rat.le_of_lt hp)
  rw [hi] at m1 m2
  have c1 : ((-2 * (N : Int) : Int) : Rat) ≤ (i : Rat) := by rw [Rat.intCast_mul]; exact m1
  have c2 : (i : Rat) ≤ ((2 * (N : Int) : Int) : Rat) := by rw [Rat.intCast_mul]; exact m2
  have c1 := Rat.intCast_le_intCast.mp c1
  have c2 := Rat.intCast_le_intCast.mp c2
  have p2 : 2 ^ (k + 2) = 2 ^ k * 4 := by rw [Nat.pow_add]
  rw [e]
  exact qs_div (by omega) (by unfold Sz; omega) (by unfold Sz; omega)
structure RuN (N : Nat) (r : Ru) : Prop where
  g : Fr N r.g
  p : Fr N r.p
  a : Fr N r.a
  q : Fr N r.q
  b : Fr N r.b
theorem run_one : RuN 1 Ru.one := ⟨.one, .zero, .zero, .one, .zero⟩
theorem RuN.behind {N M : Nat} {r t : Ru} (h : RuN N r) (k : RuN M t) : RuN (N * M) (r.behind t) := by
  have c : ∀ {p q : Rat}, Fr M p → Fr N q → Fr (N * M) (p * q) := fun a b => by rw [Nat.mul_comm]; exact a.mul b
  exact ⟨c k.g h.g, (c k.g h.p).add (c k.p h.q), ((c k.g h.a).add (c k.p h.b)).add (k.a.up' N), c k.q h.q, (c k.q h.b).add (k.b.up' N)⟩
theorem RuN.mix {N M : Nat} {r : Ru} {m : Rat} (h : RuN N r) (k : Fr M m) : RuN (N * M) (r.mix m) := by
  have c : ∀ {q : Rat}, Fr N q → Fr (N * M) (m * q) := fun b => by rw [Nat.mul_comm]; exact k.mul b
  have o : Fr (N * M) (1 - m) := Fr.one.sub (k.up' N)
  exact ⟨o.add (c h.g), c h.p, c h.a, o.add (c h.q), c h.b⟩
theorem run_mru {N w : Nat} {s u : Rat} (h : Fr N s) (k : Fr N u) : RuN N (mru w s u) := by
  unfold mru
  split
  · exact ⟨Fr.one.sub k, .zero, h, Fr.one.sub k, k⟩
  · exact ⟨.one, Fr.zero.sub h, h, Fr.one.sub k, k⟩
  · exact ⟨Fr.one.sub h, .zero, h, Fr.one.sub k, k⟩
  · exact ⟨(Fr.one.sub k).add h, Fr.zero.sub h, h, Fr.one.sub k, k⟩
  · exact ⟨Fr.one.sub k, h, .zero, .one, .zero⟩
theorem RuN.laid {N M : Nat} {r : Ru} {x y : Rat} (h : RuN N r) (k : Fr M x) (l : Fr M y) : Fr (N * M) (r.laid (x, y)).1 ∧ Fr (N * M) (r.laid (x, y)).2 :=
  ⟨((h.g.mul k).add (h.p.mul l)).add (h.a.up M), (h.q.mul l).add (h.b.up M)⟩
/-- a rule's sizes -/
structure RuS (n : Nat) (r : Ru) : Prop where
  g : Qs n r.g
  p : Qs n r.p
  a : Qs n r.a
  q : Qs n r.q
  b : Qs n r.b
theorem RuS.mono {m n : Nat} {r : Ru} (h : RuS m r) (l : m ≤ n) : RuS n r := ⟨h.g.mono l, h.p.mono l, h.a.mono l, h.q.mono l, h.b.mono l⟩
theorem RuN.size {N k : Nat} {r : Ru} (h : RuN N r) (s : r.stay) (h0 : 0 < N) (hk : N ≤ 2 ^ k) : RuS (k + 2) r := by
  obtain ⟨⟨a1, a2, a3⟩, ⟨b1, b2, b3⟩, c1, c2, c3⟩ := s
  exact ⟨h.g.qs h0 hk (by grind) (by grind), h.p.qs h0 hk (by grind) (by grind), h.a.qs h0 hk (by grind) (by grind), h.q.qs h0 hk (by grind) (by grind), h.b.qs h0 hk (by grind) (by grind)⟩
theorem sh_size {N k : Nat} {x y : Rat} (h : shadeP x y) (hx : Fr N x) (hy : Fr N y) (h0 : 0 < N) (hk : N ≤ 2 ^ k) : Qs (k + 2) x ∧ Qs (k + 2) y := by
  obtain ⟨a1, a2, a3⟩ := h
  exact ⟨hx.qs h0 hk (by grind) (by grind), hy.qs h0 hk (by grind) (by grind)⟩
/-! ### plans -/
inductive Pl where
  | paint (w : Nat) (m x y : Rat)
  | adj (g l : Int) (m : Rat)
  | grp (w : Nat) (t : Bool) (m : Rat) (ps : List Pl)
def wS : Nat → Str
  | 0 => "over"
  | 1 => "under"
  | 2 => "screen"
  | 3 => "times"
  | _ => "atop"
mutual
def plD : Pl → D
  | .paint w m x y => .tup [.str "paint", .str (wS w), qD m, .tup [qD x, qD y]]
  | .adj g l m => .tup [.str "adjust", .int g, .int l, qD m]
  | .grp w t m ps => .tup [.str "group", .str (wS w), .bl t, qD m, .tup (plDs ps)]
def plDs : List Pl → List D
  | [] => []
  | p :: r => plD p :: plDs r
end
mutual
def ruleP : Pl → Ru
  | .paint w m x y => mru w (m * x) (m * y)
  | .adj g l m => (⟨Rat.divInt g 16, Rat.divInt l 16, 0, 1, 0⟩ : Ru).mix m
  | .grp w t m ps => if t then (rulesP ps).mix m else mru w (m * (rulesP ps).a) (m * (rulesP ps).b)
def rulesP : List Pl → Ru
  | [] => Ru.one
  | p :: r => (ruleP p).behind (rulesP r)
end
mutual
def plOk : Pl → Prop
  | .paint w m x y => w < 5 ∧ 0 ≤ m ∧ m ≤ 1 ∧ shadeP x y
  | .adj g l m => 0 ≤ g ∧ 0 ≤ l ∧ g + l ≤ 16 ∧ 0 ≤ m ∧ m ≤ 1
  | .grp w _ m ps => w < 5 ∧ 0 ≤ m ∧ m ≤ 1 ∧ plsOk ps
def plsOk : List Pl → Prop
  | [] => True
  | p :: r => plOk p ∧ plsOk r
end
mutual
def plDep : Pl → Nat
  | .grp _ _ _ ps => plsDep ps + 1
  | _ => 0
def plsDep : List Pl → Nat
  | [] => 0
  | p :: r => max (plDep p) (plsDep r)
end
mutual
def plN : Pl → Nat
  | .paint _ m x y => m.den * (x.den * y.den)
  | .adj _ _ m => 16 * m.den
  | .grp _ _ m ps => plsN ps * m.den
def plsN : List Pl → Nat
  | [] => 1
  | p :: r => plN p * plsN r
end
mutual
theorem pl_stay : ∀ {p : Pl}, plOk p → (ruleP p).stay
  | .paint w m x y, ⟨_, h1, h2, h3⟩ => by rw [ruleP]; exact stay_mru (sh_weak h1 h2 h3)
  | .adj g l m, ⟨h1, h2, h3, h4, h5⟩ => by
    rw [ruleP]
    refine stay_mix ?_ h4 h5
    have s := shade_of (c := l) (t := 16) (m := 16) (by decide) h2 (by omega) (by decide)
    have s2 := shade_of (c := g + l) (t := 16) (m := 16) (by decide) (by omega) (by omega) (by decide)
    rw [dv_add (by decide), dv_self (by decide)] at s2
    rw [dv_self (by decide)] at s
    refine ⟨sh_00, ?_, ?_⟩
    · show shadeP (Rat.divInt l 16 + 0) (1 + 0)
      rw [Rat.add_zero, Rat.add_zero]
      exact s
    · show shadeP (Rat.divInt g 16 + Rat.divInt l 16 + 0) (1 + 0)
      rw [Rat.add_zero, Rat.add_zero]
      exact s2
  | .grp w t m ps, ⟨_, h1, h2, h3⟩ => by
    have s := pls_stay h3
    rw [ruleP]
    split
    · exact stay_mix s h1 h2
    · exact stay_mru (sh_weak h1 h2 s.1)
theorem pls_stay : ∀ {ps : List Pl}, plsOk ps → (rulesP ps).stay
  | [], _ => stay_one
  | p :: r, ⟨h1, h2⟩ => by rw [rulesP]; exact stay_behind (pl_stay h1) (pls_stay h2)
end
mutual
theorem pl_run : ∀ (p : Pl), RuN (plN p) (ruleP p)
  | .paint w m x y => by
    rw [ruleP, plN]
    exact run_mru ((Fr.den m).mul ((Fr.den x).up y.den)) ((Fr.den m).mul ((Fr.den y).up' x.den))
  | .adj g l m => by
    rw [ruleP, plN]
    have e : ∀ i : Int, Fr 16 (Rat.divInt i 16) := fun i => ⟨i, by
      rw [Rat.divInt_eq_div, Rat.div_def, Rat.mul_assoc]
      have : ((16 : Int) : Rat)⁻¹ * (((16 : Nat) : Int) : Rat) = 1 := Rat.inv_mul_cancel _ (by decide)
      rw [this, Rat.mul_one]⟩
    exact RuN.mix ⟨e g, e l, .zero, .one, .zero⟩ (Fr.den m)
  | .grp w t m ps => by
    have h := pls_run ps
    rw [ruleP, plN]
    split
    · exact h.mix (Fr.den m)
    · have c : ∀ {q : Rat}, Fr (plsN ps) q → Fr (plsN ps * m.den) (m * q) := fun b => by rw [Nat.mul_comm]; exact (Fr.den m).mul b
      exact run_mru (c h.a) (c h.b)
theorem pls_run : ∀ (ps : List Pl), RuN (plsN ps) (rulesP ps)
  | [] => by rw [rulesP, plsN]; exact run_one
  | p :: r => by rw [rulesP, plsN]; exact (pl_run p).behind (pls_run r)
end
mutual
theorem plN_pos : ∀ (p : Pl), 0 < plN p
  | .paint w m x y => by rw [plN]; exact Nat.mul_pos m.den_pos (Nat.mul_pos x.den_pos y.den_pos)
  | .adj g l m => by rw [plN]; exact Nat.mul_pos (by decide) m.den_pos
  | .grp w t m ps => by rw [plN]; exact Nat.mul_pos (plsN_pos ps) m.den_pos
theorem plsN_pos : ∀ (ps : List Pl), 0 < plsN ps
  | [] => by rw [plsN]; decide
  | p :: r => by rw [plsN]; exact Nat.mul_pos (plN_pos p) (plsN_pos r)
end
theorem plDs_map : ∀ ps : List Pl, plDs ps = ps.map plD
  | [] => rfl
  | p :: r => by rw [plDs, plDs_map r]; rfl
theorem rulesP_app : ∀ (ps rs : List Pl), rulesP (ps ++ rs) = (rulesP ps).behind (rulesP rs)
  | [], rs => by rw [List.nil_append, rulesP, Ru.one_behind]
  | p :: r, rs => by rw [List.cons_append, rulesP, rulesP, rulesP_app r rs, Ru.behind_assoc]
theorem plsOk_app : ∀ (ps rs : List Pl), plsOk (ps ++ rs) ↔ plsOk ps ∧ plsOk rs
  | [], rs => by simp [plsOk]
  | p :: r, rs => by rw [List.cons_append, plsOk, plsOk, plsOk_app r rs, and_assoc]
theorem plsN_app : ∀ (ps rs : List Pl), plsN (ps ++ rs) = plsN ps * plsN rs
  | [], rs => by rw [List.nil_append, plsN, Nat.one_mul]
  | p :: r, rs => by rw [List.cons_append, plsN, plsN, plsN_app r rs, Nat.mul_assoc]
theorem plsDep_app : ∀ (ps rs : List Pl), plsDep (ps ++ rs) = max (plsDep ps) (plsDep rs)
  | [], rs => by rw [List.nil_append, plsDep, Nat.zero_max]
  | p :: r, rs => by rw [List.cons_append, plsDep, plsDep, plsDep_app r rs, Nat.max_assoc]
theorem pl_size {p : Pl} {k : Nat} (h : plOk p) (hk : plN p ≤ 2 ^ k) : RuS (k + 2) (ruleP p) := (pl_run p).size (pl_stay h) (plN_pos p) hk
theorem pls_size {ps : List Pl} {k : Nat} (h : plsOk ps) (hk : plsN ps ≤ 2 ^ k) : RuS (k + 2) (rulesP ps) := (pls_run ps).size (pls_stay h) (plsN_pos ps) hk
/-! ### contracts -/
def cRuleOf (n : Nat) : Ctr := fun ds S Q _ => ∃ p : Pl, ds = [plD p] ∧ plOk p ∧ plDep p ≤ n ∧ plN p ≤ 2 ^ 700 ∧ Q (ruD (ruleP p)) S
theorem mRuleOf (n : Nat) : MonC (cRuleOf n) := fun _ _ _ _ _ _ hq _ ⟨p, e, h1, h2, h3, z⟩ => ⟨p, e, h1, h2, h3, hq _ _ z⟩
def cRuleAll (n : Nat) : Ctr := fun ds S Q _ => ∃ (L : D) (ps : List Pl), ds = [L] ∧ itemsOf S L = some (plDs ps) ∧ plsOk ps ∧ plsDep ps ≤ n ∧ plsN ps ≤ 2 ^ 700 ∧ Q (ruD (rulesP ps)) S
theorem mRuleAll (n : Nat) : MonC (cRuleAll n) := fun _ _ _ _ _ _ hq _ ⟨L, ps, e, h1, h2, h3, h4, z⟩ => ⟨L, ps, e, h1, h2, h3, h4, hq _ _ z⟩
def shD (v : Rat × Rat) : D := .tup [qD v.1, qD v.2]
def cValueOf (n : Nat) : Ctr := fun ds S Q _ => ∃ (L : D) (ps : List Pl) (x y : Rat) (M : Nat), ds = [L, .tup [qD x, qD y]] ∧ itemsOf S L = some (plDs ps) ∧ plsOk ps ∧ plsDep ps ≤ n ∧ shadeP x y ∧ Fr M x ∧ Fr M y ∧ 0 < M ∧ plsN ps * M ≤ 2 ^ 700 ∧ Q (shD ((rulesP ps).laid (x, y))) S
theorem mValueOf (n : Nat) : MonC (cValueOf n) := fun _ _ _ _ _ _ hq _ ⟨L, ps, x, y, M, e, h1, h2, h3, h4, h5, h6, h7, h8, z⟩ => ⟨L, ps, x, y, M, e, h1, h2, h3, h4, h5, h6, h7, h8, hq _ _ z⟩
theorem stay_of {S : Sto} {L : D} {xs : List D} (h : itemsOf S L = some xs) : stayOf L xs S := by
  cases L <;> first | trivial | exact h
theorem sl_tup1 {x y : D} {r : List D} {S : Sto} {Q : QD} : slD (.tup (x :: y :: r)) (some 1) none S Q ↔ Q (.tup (y :: r)) S := by
  rw [sl_tup, cut_lo (by decide)]
  refine ⟨fun h => h.2, fun h => ⟨fun z => ?_, h⟩⟩
  have e := HT.sIx_nat (x :: y :: r).length 0 1
  have z1 := z.1
  rw [show (some (1 : Int)) = some ((1 : Nat) : Int) from rfl, e, List.length_cons, List.length_cons] at z1
  omega
theorem clo_ru {n : Nat} (r : Ru) : cloD n (ruD r) := ⟨clo_q.mpr trivial, clo_q.mpr trivial, clo_q.mpr trivial, clo_q.mpr trivial, clo_q.mpr trivial, trivial⟩
theorem man_w {w : Nat} (h : w < 5) : manN (wS w) = w := by
  match w, h with
  | 0, _ => exact man_0
  | 1, _ => exact man_1
  | 2, _ => exact man_2
  | 3, _ => exact man_3
  | 4, _ => exact man_4
  | _ + 5, h => omega
mutual
theorem clo_pl {n : Nat} : ∀ p : Pl, cloD n (plD p)
  | .paint w m x y => by rw [plD]; exact ⟨trivial, trivial, clo_q.mpr trivial, ⟨clo_q.mpr trivial, clo_q.mpr trivial, trivial⟩, trivial⟩
  | .adj g l m => by rw [plD]; exact ⟨trivial, trivial, trivial, clo_q.mpr trivial, trivial⟩
  | .grp w t m ps => by rw [plD]; exact ⟨trivial, trivial, trivial, clo_q.mpr trivial, clo_pls ps, trivial⟩
theorem clo_pls {n : Nat} : ∀ ps : List Pl, cloDs n (plDs ps)
  | [] => trivial
  | p :: r => ⟨clo_pl p, clo_pls r⟩
end
theorem plDs_snoc (ps : List Pl) (p : Pl) : plDs (ps ++ [p]) = plDs ps ++ [plD p] := by rw [plDs_map, plDs_map, List.map_append]; rfl
theorem plDs_len (ps : List Pl) : (plDs ps).length = ps.length := by rw [plDs_map, List.length_map]
theorem den_div {t : Int} {n : Nat} (h : 0 < n) : (Rat.divInt t n).den ≤ n := by
  rw [Rat.den_divInt, if_neg (by omega)]
  exact Nat.le_trans (Nat.div_le_self _ _) (by simp)
def plK : Pl → Str
  | .paint .. => "paint"
  | .adj .. => "adjust"
  | .grp .. => "group"
theorem ix_pl0 {p : Pl} {S : Sto} {Q : QD} : ixD (plD p) (.int 0) S Q ↔ Q (.str (plK p)) S := by
  cases p <;> rw [plD, ix_tup, at_0] <;> simp [plK]
theorem ix_pl2 {w : Nat} {t : Bool} {m : Rat} {ps : List Pl} {S : Sto} {Q : QD} : ixD (plD (.grp w t m ps)) (.int 2) S Q ↔ Q (.bl t) S := by
  rw [plD, ix_tup, at_2]; simp
theorem ix_pl3 {w : Nat} {t : Bool} {m : Rat} {ps : List Pl} {S : Sto} {Q : QD} : ixD (plD (.grp w t m ps)) (.int 3) S Q ↔ Q (qD m) S := by
  rw [plD, ix_tup, at_3]; simp
theorem ix_pl4 {w : Nat} {t : Bool} {m : Rat} {ps : List Pl} {S : Sto} {Q : QD} : ixD (plD (.grp w t m ps)) (.int 4) S Q ↔ Q (.tup (plDs ps)) S := by
  rw [plD, ix_tup, at_4]; simp
theorem pk_paint {w : Nat} {m x y : Rat} : plK (.paint w m x y) = "paint" := rfl
theorem pk_adj {g l : Int} {m : Rat} : plK (.adj g l m) = "adjust" := rfl
theorem pk_grp {w : Nat} {t : Bool} {m : Rat} {ps : List Pl} : plK (.grp w t m ps) = "group" := rfl
theorem it_pls {S : Sto} {ps : List Pl} : itemsOf S (.tup (plDs ps)) = some (plDs ps) := rfl
theorem str_ok {w : Nat} : PyData.canLay0 (.str (wS w)) = true := by unfold wS; split <;> decide +kernel
mutual
theorem pl_py (S : Sto) : ∀ (p : Pl) (k : Nat), plDep p ≤ k → ∃ d, Py S (3 + 2 * k) (plD p) d
  | .paint w m x y, k, _ => ⟨_, by
    rw [plD]
    exact .up (k := 3) (.tup (.cons (.str (by decide +kernel)) (.cons (.str str_ok) (.cons (Py.q m) (.cons (.tup (.cons (Py.q x) (.cons (Py.q y) .nil))) .nil))))) (by omega)⟩
  | .adj g l m, k, _ => ⟨_, by
    rw [plD]
    exact .up (k := 3) (.tup (.cons (.str (by decide +kernel)) (.cons (.int g) (.cons (.int l) (.cons (Py.q m) .nil))))) (by omega)⟩
  | .grp w t m ps, k, h => by
    rw [plDep] at h
    obtain ⟨j, rfl⟩ : ∃ j, k = j + 1 := ⟨k - 1, by omega⟩
    obtain ⟨ds, hd⟩ := pls_py S ps j (by omega)
    refine ⟨.tuple [.str "group", .str (wS w), .bool t, pD m, .tuple ds], ?_⟩
    rw [plD]
    have e : 3 + 2 * (j + 1) = (3 + 2 * j) + 1 + 1 := by omega
    rw [e]
    exact .tup (.cons (.str (by decide +kernel)) (.cons (.str str_ok) (.cons (.bl t) (.cons ((Py.q (k := 0) m).up (by omega)) (.cons (.tup hd) .nil)))))
theorem pls_py (S : Sto) : ∀ (ps : List Pl) (k : Nat), plsDep ps ≤ k → ∃ ds, Pys S (3 + 2 * k) (plDs ps) ds
  | [], k, _ => ⟨_, .nil⟩
  | p :: r, k, h => by
    rw [plsDep] at h
    obtain ⟨d, h1⟩ := pl_py S p k (by omega)
    obtain ⟨ds, h2⟩ := pls_py S r k (by omega)
    exact ⟨_, .cons h1 h2⟩
end
theorem lc_pls {S0 : Sto} {n : Nat} {stay : Sto → Prop} {bind : D → (Env → Prop) → Prop} {test : Env → Sto → (Bool → Sto → Prop) → Prop} {elt : Env → Sto → QD → Prop} {k : Sto → Prop} (hn : n = S0.length) (dp B : Nat) (hst : ∀ acc, stay (S0 ++ [.lst acc])) :
    ∀ (xs : List D) (ps : List Pl), (∀ x ∈ xs, ∀ acc, ∀ P : Option D → Sto → Prop, (∀ p, plOk p → plDep p ≤ dp → plN p ≤ B → P (some (plD p)) (S0 ++ [.lst acc])) → bind x fun ρ' => test ρ' (S0 ++ [.lst acc]) fun b S1 => Br b (elt ρ' S1 fun d S2 => P (some d) S2) (P none S1)) →
    ps.length + xs.length ≤ 16777216 → plsOk ps → plsDep ps ≤ dp → plsN ps ≤ B ^ ps.length →
    (∀ ps' : List Pl, ps'.length = ps.length + xs.length → plsOk ps' → plsDep ps' ≤ dp → plsN ps' ≤ B ^ ps'.length → k (S0 ++ [.lst (plDs ps')])) → lcD n stay bind test elt xs (S0 ++ [.lst (plDs ps)]) k
  | [], ps, _, _, h1, h2, h3, hk => ⟨hst _, hk ps rfl h1 h2 h3⟩
  | x :: r, ps, h, hl, h1, h2, h3, hk => by
    have hl' : ps.length + (r.length + 1) ≤ 16777216 := hl
    subst hn
    refine ⟨hst _, h x List.mem_cons_self _ (fun o S1 => match o with
      | some d => ∃ acc, lstAt S1 S0.length = some acc ∧ acc.length < 16777216 ∧ lcD S0.length stay bind test elt r (setLst S1 S0.length (acc ++ [d])) k
      | none => lcD S0.length stay bind test elt r S1 k) fun p g1 g2 g3 => ?_⟩
    refine ⟨plDs ps, by rw [lst_at0, lst_hit], by rw [plDs_len]; omega, ?_⟩
    rw [set_at0, set_hit, ← plDs_snoc]
    have hlen : (ps ++ [p]).length = ps.length + 1 := by rw [List.length_append]; rfl
    refine lc_pls rfl dp B hst r (ps ++ [p]) (fun y hy => h y (List.mem_cons_of_mem _ hy)) (by omega) ((plsOk_app _ _).mpr ⟨h1, g1, trivial⟩) ?_ ?_ fun ps' e => hk ps' (by rw [e, hlen, List.length_cons]; omega)
    · rw [plsDep_app, plsDep, plsDep]
      omega
    · rw [plsN_app, plsN, plsN, Nat.mul_one, hlen, Nat.pow_succ]
      exact Nat.mul_le_mul h3 g3
theorem stay_q {q : Rat} {ys : List D} : stayOf (qD q) ys = fun _ => True := rfl
theorem mru_mix {w : Nat} {m x y : Rat} : (mru w x y).mix m = mru w (m * x) (m * y) := by
  unfold mru Ru.mix
  split <;> exact Ru.ext' (by first | rfl | (dsimp only; grind)) (by first | rfl | (dsimp only; grind)) (by first | rfl | (dsimp only; grind)) (by first | rfl | (dsimp only; grind)) (by first | rfl | (dsimp only; grind))
mutual
theorem Py.app {S T : Sto} {k : Nat} : ∀ {x : D} {d : PyData}, Py S k x d → Py (S ++ T) k x d
  | _, _, .non => .non
  | _, _, .bl b => .bl b
  | _, _, .int i => .int i
  | _, _, .str h => .str h
  | _, _, .key h => .key h
  | _, _, .tup h => .tup h.app
  | _, _, .rol h => .rol h.app
  | _, _, .loc h0 h => .loc (lst_old h0) h.app
theorem Pys.app {S T : Sto} {k : Nat} : ∀ {x : List D} {d : List PyData}, Pys S k x d → Pys (S ++ T) k x d
  | _, _, .nil => .nil
  | _, _, .cons h r => .cons h.app r.app
end
theorem pyx_str {S : Sto} {x : Str} {k : Nat} (h : PyData.canLay0 (.str x) = true) : (∃ p, Py S k (.str x) p) ↔ True := ⟨fun _ => trivial, fun _ => ⟨_, .str h⟩⟩
theorem pw_0 {S : Sto} {k : Nat} : (∃ p, Py S k (.str "over") p) ↔ True := pyx_str (by decide +kernel)
theorem pw_1 {S : Sto} {k : Nat} : (∃ p, Py S k (.str "under") p) ↔ True := pyx_str (by decide +kernel)
theorem pw_2 {S : Sto} {k : Nat} : (∃ p, Py S k (.str "screen") p) ↔ True := pyx_str (by decide +kernel)
theorem pw_3 {S : Sto} {k : Nat} : (∃ p, Py S k (.str "times") p) ↔ True := pyx_str (by decide +kernel)
theorem pw_4 {S : Sto} {k : Nat} : (∃ p, Py S k (.str "atop") p) ↔ True := pyx_str (by decide +kernel)
theorem words_at {i : Int} {P : D → Prop} (h0 : 0 ≤ i) (h : i < 5) (hp : ∀ w, w < 5 → P (.str (wS w))) : ∃ x, atI [D.str "over", D.str "under", D.str "screen", D.str "times", D.str "atop"] i = some x ∧ P x := by
  have hc : i = 0 ∨ i = 1 ∨ i = 2 ∨ i = 3 ∨ i = 4 := by omega
  rcases hc with rfl | rfl | rfl | rfl | rfl
  · exact ⟨_, at_0, hp 0 (by decide)⟩
  · exact ⟨_, at_1, hp 1 (by decide)⟩
  · exact ⟨_, at_2, hp 2 (by decide)⟩
  · exact ⟨_, at_3, hp 3 (by decide)⟩
  · exact ⟨_, at_4, hp 4 (by decide)⟩
/-- a suite behind its first statement -/
def tlB : Bl → Bl
  | .cons _ r => r
  | .nil => .nil
theorem finx_junk {S J : Sto} {Y : XD} {c : Nat} (h : Y c S) : FinX S Y c (S ++ J) := .inr ⟨S.length, GcOk.app, by rw [List.take_left' rfl]; exact h⟩
/-- a word, or another thing, against the five -/
theorem no_word {S : Sto} {k : Nat} {d : D} {p : PyData} {w : Str} (hw : manN w < 5) (h : Py S k d p) (hn : ∀ x, d = .str x → ¬ manN x < 5) : PyData.eqv (.str w) p = false := by
  cases h with
  | str hx =>
    rename_i x
    have := hn x rfl
    show (w == x) = false
    refine beq_eq_false_iff_ne.mpr fun e => ?_
    rw [← e] at this
    exact this hw
  | _ => rfl
/-! ### a list that is drawn from -/
theorem set_app_lt {S T : Sto} {n : Nat} {x : List D} (h : n < S.length) : setLst (S ++ T) n x = setLst S n x ++ T := by
  unfold setLst
  rw [List.set_append_left _ _ h]
theorem set_set {S : Sto} {n : Nat} {x y : List D} : setLst (setLst S n x) n y = setLst S n y := by
  unfold setLst
  rw [List.set_set]
theorem lst_sapp0 {S T : Sto} {n : Nat} {x : List D} : lstAt (setLst S n x ++ T) S.length = lstAt T 0 := by
  rw [lst_app_ge (by rw [set_len]; exact Nat.le_refl _), set_len, Nat.sub_self]
theorem lst_sappk {S T : Sto} {n k : Nat} {x : List D} : lstAt (setLst S n x ++ T) (S.length + k) = lstAt T k := by
  rw [lst_app_ge (by rw [set_len]; omega), set_len, Nat.add_sub_cancel_left]
theorem sapp_len {S T : Sto} {n : Nat} {x : List D} : (setLst S n x ++ T).length = S.length + T.length := by rw [List.length_append, set_len]
theorem fin_set {S J : Sto} {Q : QD} {d : D} {n : Nat} {xs : List D} (h : Q d (setLst S n xs)) (hd : cloD S.length d) (hx : cloDs S.length xs) : Fin' S Q d (setLst S n xs ++ J) := by
  refine .inr ⟨S.length, ⟨Nat.le_refl _, by rw [sapp_len]; omega, fun i o hi ho => ?_⟩, hd, ?_⟩
  · rw [List.getElem?_append_left (by rw [set_len]; exact hi)] at ho
    by_cases e : n = i
    · subst e
      unfold setLst at ho
      rw [List.getElem?_set_self hi] at ho
      cases ho
      exact .inr hx
    · unfold setLst at ho
      rw [List.getElem?_set_ne e] at ho
      exact .inl ho
  · rw [List.take_left' (by rw [set_len])]
    exact h
theorem fin_set0 {S : Sto} {Q : QD} {d : D} {n : Nat} {xs : List D} (h : Q d (setLst S n xs)) : Fin' S Q d (setLst S n xs) := .inl h
theorem lst_end {S J : Sto} {xs : List D} : lstAt (S ++ (J ++ [.lst xs])) (S.length + J.length) = some xs := by
  rw [lst_at]
  exact lst_at0
theorem set_end {S J : Sto} {xs ys : List D} : setLst (S ++ (J ++ [.lst xs])) (S.length + J.length) ys = S ++ (J ++ [.lst ys]) := by
  rw [set_at, set_at0]
  rfl
theorem lc_well {S0 J : Sto} {W n : Nat} {f : D} {stay : Sto → Prop} {bind : D → (Env → Prop) → Prop} {test : Env → Sto → (Bool → Sto → Prop) → Prop} {elt : Env → Sto → QD → Prop} {k : Sto → Prop} (hn : n = S0.length + J.length) (dp B : Nat) (hst : ∀ S, stay S) :
    ∀ (xs : List D) (ps : List Pl) (a b : Int), (∀ x ∈ xs, ∀ acc (a b : Int), ∀ P : Option D → Sto → Prop, (∀ p (a' b' : Int), plOk p → plDep p ≤ dp → plN p ≤ B → P (some (plD p)) (setLst S0 W [f, .int a', .int b'] ++ (J ++ [.lst acc]))) →
      bind x fun ρ' => test ρ' (setLst S0 W [f, .int a, .int b] ++ (J ++ [.lst acc])) fun b S1 => Br b (elt ρ' S1 fun d S2 => P (some d) S2) (P none S1)) →
    ps.length + xs.length ≤ 16777216 → plsOk ps → plsDep ps ≤ dp → plsN ps ≤ B ^ ps.length →
    (∀ (ps' : List Pl) (a' b' : Int), ps'.length = ps.length + xs.length → plsOk ps' → plsDep ps' ≤ dp → plsN ps' ≤ B ^ ps'.length → k (setLst S0 W [f, .int a', .int b'] ++ (J ++ [.lst (plDs ps')]))) →
    lcD n stay bind test elt xs (setLst S0 W [f, .int a, .int b] ++ (J ++ [.lst (plDs ps)])) k
  | [], ps, a, b, _, _, h1, h2, h3, hk => ⟨hst _, hk ps a b rfl h1 h2 h3⟩
  | x :: r, ps, a, b, h, hl, h1, h2, h3, hk => by
    have hl' : ps.length + (r.length + 1) ≤ 16777216 := hl
    subst hn
    refine ⟨hst _, h x List.mem_cons_self _ _ _ (fun o S1 => match o with
      | some d => ∃ acc, lstAt S1 (S0.length + J.length) = some acc ∧ acc.length < 16777216 ∧ lcD (S0.length + J.length) stay bind test elt r (setLst S1 (S0.length + J.length) (acc ++ [d])) k
      | none => lcD (S0.length + J.length) stay bind test elt r S1 k) fun p a' b' g1 g2 g3 => ?_⟩
    have e0 : S0.length = (setLst S0 W [f, .int a', .int b']).length := set_len.symm
    refine ⟨plDs ps, by rw [e0]; exact lst_end, by rw [plDs_len]; omega, ?_⟩
    have e1 : setLst (setLst S0 W [f, .int a', .int b'] ++ (J ++ [.lst (plDs ps)])) (S0.length + J.length) (plDs ps ++ [plD p]) = setLst S0 W [f, .int a', .int b'] ++ (J ++ [.lst (plDs (ps ++ [p]))]) := by
      rw [e0, set_end, plDs_snoc]
    rw [e1]
    have hlen : (ps ++ [p]).length = ps.length + 1 := by rw [List.length_append]; rfl
    refine lc_well rfl dp B hst r (ps ++ [p]) a' b' (fun y hy => h y (List.mem_cons_of_mem _ hy)) (by omega) ((plsOk_app _ _).mpr ⟨h1, g1, trivial⟩) ?_ ?_ fun ps' a' b' e => hk ps' a' b' (by rw [e, hlen, List.length_cons]; omega)
    · rw [plsDep_app, plsDep, plsDep]
      omega
    · rw [plsN_app, plsN, plsN, Nat.mul_one, hlen, Nat.pow_succ]
      exact Nat.mul_le_mul h3 g3
/-- where two rules part -/
def pickR (r t : Ru) : D := pickD (r.a = t.a ∧ r.b = t.b) (r.p + r.a = t.p + t.a ∧ r.q + r.b = t.q + t.b) (r.g + r.p + r.a = t.g + t.p + t.a ∧ r.q + r.b = t.q + t.b)
theorem pickR_non {r t : Ru} (h1 : r.a = t.a ∧ r.b = t.b) (h2 : r.p + r.a = t.p + t.a ∧ r.q + r.b = t.q + t.b) (h3 : r.g + r.p + r.a = t.g + t.p + t.a ∧ r.q + r.b = t.q + t.b) : r = t :=
  Ru.ext' (by grind) (by grind) h1.1 (by grind) h1.2
theorem pickR_or (r t : Ru) : (pickR r t = .non ∧ r = t) ∨ ∃ x y : Rat, pickR r t = .tup [qD x, qD y] ∧ r ≠ t := by
  unfold pickR
  by_cases h1 : r.a = t.a ∧ r.b = t.b
  · by_cases h2 : r.p + r.a = t.p + t.a ∧ r.q + r.b = t.q + t.b
    · by_cases h3 : r.g + r.p + r.a = t.g + t.p + t.a ∧ r.q + r.b = t.q + t.b
      · exact .inl ⟨pick_n h1 h2 h3, pickR_non h1 h2 h3⟩
      · exact .inr ⟨1, 1, pick_c h1 h2 h3, fun e => h3 (by rw [e]; exact ⟨rfl, rfl⟩)⟩
    · exact .inr ⟨0, 1, pick_b h1 h2, fun e => h2 (by rw [e]; exact ⟨rfl, rfl⟩)⟩
  · exact .inr ⟨0, 0, pick_a h1, fun e => h1 (by rw [e]; exact ⟨rfl, rfl⟩)⟩
theorem fin_well {S J : Sto} {Q : QD} {d : D} {x y : List D} (h : Q d S) (hd : cloD S.length d) : Fin' S Q d (setLst (S ++ [.lst x]) S.length y ++ J) := by
  rw [set_at0, List.append_assoc]
  exact fin_junk h hd
/-- the rule of a manner as its words have it -/
theorem mru_0 {s u : Rat} : mru 0 s u = ⟨1 - u, 0, s, 1 - u, u⟩ := rfl
theorem mru_1 {s u : Rat} : mru 1 s u = ⟨1, 0 - s, s, 1 - u, u⟩ := rfl
theorem mru_2 {s u : Rat} : mru 2 s u = ⟨1 - s, 0, s, 1 - u, u⟩ := rfl
theorem mru_3 {s u : Rat} : mru 3 s u = ⟨1 - u + s, 0 - s, s, 1 - u, u⟩ := rfl
theorem mru_4 {s u : Rat} : mru 4 s u = ⟨1 - u, s, 0, 1, 0⟩ := rfl
theorem mru_clear {w : Nat} : mru w 0 0 = Ru.one := by
  unfold mru Ru.one
  split <;> exact Ru.ext' (by first | rfl | (dsimp only; grind)) (by first | rfl | (dsimp only; grind)) (by first | rfl | (dsimp only; grind)) (by first | rfl | (dsimp only; grind)) (by first | rfl | (dsimp only; grind))
end Wp

/-! loops by their places: over a list, over a range, over an enumeration -/
namespace Wp
open PySem PySem.Spec PyProof.Rows L2

theorem for_at {stay : Sto → Prop} {body : D → Env → Sto → Z → Prop} {z : Z} {xs : List D} (I : Nat → Env → Sto → Prop) (hst : ∀ k ρ S, I k ρ S → stay S) (hend : ∀ ρ S, I xs.length ρ S → z.nx ρ S)
    (hturn : ∀ k ρ S, (hk : k < xs.length) → I k ρ S → ∀ K : Env → Sto → Prop, (∀ ρ' S', I (k + 1) ρ' S' → K ρ' S') → body xs[k] ρ S { z with nx := K, ct := K, bk := z.nx }) (ρ : Env) (S : Sto) (h0 : I 0 ρ S) : forD stay body xs ρ S z := by
  refine for_ind (fun l ρ S => ∃ k, k ≤ xs.length ∧ l = xs.drop k ∧ I k ρ S) ?_ ?_ ?_ _ _ _ ⟨0, Nat.zero_le _, rfl, h0⟩
  · rintro r ρ S ⟨k, _, _, h⟩
    exact hst k ρ S h
  · rintro ρ S ⟨k, hk, e, h⟩
    have e2 := congrArg List.length e
    rw [List.length_drop, List.length_nil] at e2
    have : k = xs.length := by omega
    subst this
    exact hend ρ S h
  · rintro x r ρ S ⟨k, hk, e, h⟩ K hK
    have hk2 : k < xs.length := by
      have e2 := congrArg List.length e
      rw [List.length_drop, List.length_cons] at e2
      omega
    rw [List.drop_eq_getElem_cons hk2] at e
    injection e with e1 e2
    subst e1
    exact hturn k ρ S hk2 h K fun ρ' S' h' => hK ρ' S' ⟨k + 1, by omega, e2, h'⟩
theorem rng_ith {lo : Int} {n k : Nat} (h : k < (rngD lo n).length) : (rngD lo n)[k] = .int (lo + (k : Nat)) := by
  simp [rngD]
theorem for_rng {stay : Sto → Prop} {body : D → Env → Sto → Z → Prop} {z : Z} {lo : Int} {n : Nat} (I : Nat → Env → Sto → Prop) (hst : ∀ k ρ S, I k ρ S → stay S) (hend : ∀ ρ S, I n ρ S → z.nx ρ S)
    (hturn : ∀ k ρ S, k < n → I k ρ S → ∀ K : Env → Sto → Prop, (∀ ρ' S', I (k + 1) ρ' S' → K ρ' S') → body (.int (lo + (k : Nat))) ρ S { z with nx := K, ct := K, bk := z.nx }) (ρ : Env) (S : Sto) (h0 : I 0 ρ S) : forD stay body (rngD lo n) ρ S z := by
  refine for_at I hst (fun ρ S h => hend ρ S ?_) (fun k ρ S hk h K hK => ?_) ρ S h0
  · rw [rng_len] at h
    exact h
  · have hk2 := hk
    rw [rng_len] at hk2
    have e := hturn k ρ S hk2 h K hK
    rw [← rng_ith hk] at e
    exact e
theorem enu_len : ∀ (i : Nat) (xs : List D), (enumD i xs).length = xs.length
  | _, [] => rfl
  | i, x :: r => by rw [enumD, List.length_cons, enu_len (i + 1) r, List.length_cons]
theorem enu_get : ∀ (i : Nat) (xs : List D) (k : Nat) (h : k < (enumD i xs).length) (h2 : k < xs.length), (enumD i xs)[k] = .tup [.int ((i + k : Nat) : Int), xs[k]]
  | i, x :: r, 0, _, _ => rfl
  | i, x :: r, k + 1, h, h2 => by
    have e := enu_get (i + 1) r k (by rw [enumD, List.length_cons] at h; omega) (by rw [List.length_cons] at h2; omega)
    simp only [enumD, List.getElem_cons_succ]
    rw [e, show i + 1 + k = i + (k + 1) by omega]
theorem for_enum {stay : Sto → Prop} {body : D → Env → Sto → Z → Prop} {z : Z} {xs : List D} (I : Nat → Env → Sto → Prop) (hst : ∀ k ρ S, I k ρ S → stay S) (hend : ∀ ρ S, I xs.length ρ S → z.nx ρ S)
    (hturn : ∀ k ρ S, (hk : k < xs.length) → I k ρ S → ∀ K : Env → Sto → Prop, (∀ ρ' S', I (k + 1) ρ' S' → K ρ' S') → body (.tup [.int (k : Nat), xs[k]]) ρ S { z with nx := K, ct := K, bk := z.nx }) (ρ : Env) (S : Sto) (h0 : I 0 ρ S) : forD stay body (enumD 0 xs) ρ S z := by
  refine for_at I hst (fun ρ S h => hend ρ S ?_) (fun k ρ S hk h K hK => ?_) ρ S h0
  · rw [enu_len] at h
    exact h
  · have hk2 := hk
    rw [enu_len] at hk2
    rw [enu_get 0 xs k hk hk2, Nat.zero_add]
    exact hturn k ρ S hk2 h K hK
/-- a list at the store's end gets one more -/
theorem lst_last {S : Sto} {xs : List D} : lstAt (S ++ [.lst xs]) S.length = some xs := lst_at0.trans rfl
theorem set_last {S : Sto} {xs ys : List D} : setLst (S ++ [.lst xs]) S.length ys = S ++ [.lst ys] := set_at0.trans rfl
/-! ### dicts, step by step -/
section
variable {S : Sto} {n : Nat} {ks : List L2.Key} {i : Int} {z : Str} {v x : D} {Q : QD} {k : Bool → Prop}
theorem dg_t {R : Option D → Prop} : dgD (.loc n) (.key ks) S R ↔ ∃ kvs, S[n]? = some (.dt kvs) ∧ R (valD kvs ks) := Iff.rfl
theorem dg_i {R : Option D → Prop} : dgD (.loc n) (.int i) S R ↔ ∃ kvs, S[n]? = some (.dk kvs) ∧ R (valD kvs (.inl i)) := Iff.rfl
theorem dg_s {R : Option D → Prop} : dgD (.loc n) (.str z) S R ↔ ∃ kvs, S[n]? = some (.dk kvs) ∧ R (valD kvs (.inr z)) := Iff.rfl
theorem dp_t {R : Sto → Prop} : dpD (.loc n) (.key ks) v S R ↔ ∃ kvs, S[n]? = some (.dt kvs) ∧ kvs.length < 16777216 ∧ R (S.set n (.dt (putD kvs ks v))) := Iff.rfl
theorem dp_i {R : Sto → Prop} : dpD (.loc n) (.int i) v S R ↔ ∃ kvs, S[n]? = some (.dk kvs) ∧ kvs.length < 16777216 ∧ R (S.set n (.dk (putD kvs (.inl i) v))) := Iff.rfl
theorem dp_s {R : Sto → Prop} : dpD (.loc n) (.str z) v S R ↔ ∃ kvs, S[n]? = some (.dk kvs) ∧ kvs.length < 16777216 ∧ R (S.set n (.dk (putD kvs (.inr z) v))) := Iff.rfl
theorem dgf_t {R : Option D → Prop} : dgfD (.loc n) (.key ks) S R ↔ ∃ kvs, S[n]? = some (.ft kvs) ∧ R (valD kvs ks) := Iff.rfl
theorem dgf_i {R : Option D → Prop} : dgfD (.loc n) (.int i) S R ↔ ∃ kvs, S[n]? = some (.fk kvs) ∧ R (valD kvs (.inl i)) := Iff.rfl
theorem bl_dlist : bltD .dlist [.loc n] S Q ↔ ∃ kvs : List (L2.Key × D), S[n]? = some (.dk kvs) ∧ Q (.loc S.length) (S ++ [.lst (kvs.map fun p => keyD p.1)]) := Iff.rfl
theorem bm_dcl : bmD .dclear (.loc n) [] S Q ↔ ∃ kvs, S[n]? = some (.dk kvs) ∧ Q .non (S.set n (.dk [])) := Iff.rfl
theorem mt_dcl : mtTy .dclear (.loc n) S ↔ ∃ kvs, S[n]? = some (.dk kvs) := Iff.rfl
theorem ky_nil : keysOf [] = some [] := rfl
theorem ky_int {r : List D} : keysOf (.int i :: r) = (keysOf r).map (Sum.inl i :: ·) := by
  show (match some (Sum.inl i : L2.Key), keysOf r with | some k, some ks => some (k :: ks) | _, _ => none) = _
  cases keysOf r <;> rfl
theorem bm_dp1 : bmD .dpop1 (.loc n) [.int i] S Q ↔ ∃ kvs v, S[n]? = some (.dk kvs) ∧ valD kvs (.inl i) = some v ∧ Q v (S.set n (.dk (dropD kvs (.inl i)))) := Iff.rfl
theorem bm_dp2 : bmD .dpop2 (.loc n) [.key ks, x] S Q ↔ ∃ kvs, S[n]? = some (.dt kvs) ∧ (∀ v, valD kvs ks = some v → Q v (S.set n (.dt (dropD kvs ks)))) ∧ (valD kvs ks = none → Q x S) := Iff.rfl
theorem mt_dp1 : mtTy .dpop1 (.loc n) S ↔ ∃ kvs, S[n]? = some (.dk kvs) := Iff.rfl
theorem mt_dp2 : mtTy .dpop2 (.loc n) S ↔ ∃ kvs, S[n]? = some (.dt kvs) := Iff.rfl
theorem srt_loc : bltD .sorted [.loc n] S Q ↔ ∃ kvs is, S[n]? = some (.dk kvs) ∧ (kvs.map (·.1) = is.map Sum.inl ∧ is.length < 64) ∧ ∀ ys : List Int, ys.Perm is → ys.Pairwise (· ≤ ·) → Q (.loc S.length) (S ++ [.lst (ys.map .int)]) := Iff.rfl
theorem cop_deq {m : Nat} : copD .deq (.loc n) (.loc m) S k ↔ deqD n m S ∧ k true := Iff.rfl
theorem cop_dne {m : Nat} : copD .dne (.loc n) (.loc m) S k ↔ deqD n m S ∧ k false := Iff.rfl
theorem in_dk {kvs : List (L2.Key × D)} (h : S[n]? = some (.dk kvs)) : inD x (.loc n) S k ↔ dgD (.loc n) x S fun o => k o.isSome := by
  unfold inD
  simp only [h]
theorem in_dt {kvs : List (List L2.Key × D)} (h : S[n]? = some (.dt kvs)) : inD x (.loc n) S k ↔ dgD (.loc n) x S fun o => k o.isSome := by
  unfold inD
  simp only [h]
theorem ty_dk {kvs : List (L2.Key × D)} (h : S[n]? = some (.dk kvs)) : tyC S (.loc n) = some .dict := by
  unfold tyC
  simp only [h]
theorem ty_dt {kvs : List (List L2.Key × D)} (h : S[n]? = some (.dt kvs)) : tyC S (.loc n) = some .dict := by
  unfold tyC
  simp only [h]
end
section
variable {κ : Type} [DecidableEq κ]
theorem valD_nil {k : κ} : valD ([] : List (κ × D)) k = none := rfl
theorem valD_put (kvs : List (κ × D)) (k j : κ) (y : D) : valD (putD kvs k y) j = if j = k then some y else valD kvs j := by
  unfold putD
  by_cases h : (kvs.any fun kv => decide (kv.1 = k)) = true
  · rw [if_pos h]
    have key : ∀ l : List (κ × D), valD (l.map fun kv => if kv.1 = k then (kv.1, y) else kv) j = if j = k then (if (l.any fun kv => decide (kv.1 = k)) = true then some y else none) else valD l j := by
      intro l
      induction l with
      | nil => simp [valD]
      | cons p r ih =>
        rw [List.map_cons, List.any_cons]
        by_cases e : p.1 = k
        · rw [if_pos e]
          by_cases ej : j = k
          · have : p.1 = j := e.trans ej.symm
            simp [valD, List.find?_cons, this, ej, e]
          · have : ¬ p.1 = j := fun z => ej (z.symm.trans e)
            have e1 : valD ((p.1, y) :: r.map fun kv => if kv.1 = k then (kv.1, y) else kv) j = valD (r.map fun kv => if kv.1 = k then (kv.1, y) else kv) j := by simp [valD, List.find?_cons, this]
            have e2 : valD (p :: r) j = valD r j := by simp [valD, List.find?_cons, this]
            rw [e1, ih, if_neg ej, if_neg ej, e2]
        · rw [if_neg e]
          by_cases ej : p.1 = j
          · have ej2 : ¬ j = k := fun z => e (ej.trans z)
            simp [valD, List.find?_cons, ej, ej2]
          · have e1 : valD (p :: r.map fun kv => if kv.1 = k then (kv.1, y) else kv) j = valD (r.map fun kv => if kv.1 = k then (kv.1, y) else kv) j := by simp [valD, List.find?_cons, ej]
            have e2 : valD (p :: r) j = valD r j := by simp [valD, List.find?_cons, ej]
            rw [e1, ih, e2, decide_eq_false e, Bool.false_or]
    rw [key, if_pos h]
  · rw [if_neg h]
    have hn : ∀ p ∈ kvs, ¬ p.1 = k := fun p hp z => h (List.any_eq_true.mpr ⟨p, hp, decide_eq_true z⟩)
    by_cases ej : j = k
    · subst ej
      rw [if_pos rfl]
      have : kvs.find? (fun kv => decide (kv.1 = j)) = none := List.find?_eq_none.mpr fun p hp => by simpa using hn p hp
      simp [valD, List.find?_append, this]
    · rw [if_neg ej]
      have : ¬ k = j := fun z => ej z.symm
      simp only [valD, List.find?_append]
      cases e : kvs.find? (fun kv => decide (kv.1 = j)) with
      | some p => rfl
      | none => simp [this]
theorem valD_drop (kvs : List (κ × D)) (k j : κ) : valD (dropD kvs k) j = if j = k then none else valD kvs j := by
  induction kvs with
  | nil => simp [dropD, valD]
  | cons p r ih =>
    by_cases e : p.1 = k
    · have e1 : dropD (p :: r) k = dropD r k := by simp [dropD, e]
      rw [e1, ih]
      by_cases ej : j = k
      · rw [if_pos ej, if_pos ej]
      · rw [if_neg ej, if_neg ej]
        have : ¬ p.1 = j := fun z => ej (z.symm.trans e)
        simp [valD, List.find?_cons, this]
    · have e1 : dropD (p :: r) k = p :: dropD r k := by simp [dropD, e]
      rw [e1]
      by_cases ej : p.1 = j
      · have ej2 : ¬ j = k := fun z => e (ej.trans z)
        rw [if_neg ej2]
        simp [valD, List.find?_cons, ej]
      · have e2 : valD (p :: dropD r k) j = valD (dropD r k) j := by simp [valD, List.find?_cons, ej]
        have e3 : valD (p :: r) j = valD r j := by simp [valD, List.find?_cons, ej]
        rw [e2, ih, e3]
theorem putD_len (kvs : List (κ × D)) (k : κ) (v : D) : (putD kvs k v).length ≤ kvs.length + 1 := by
  unfold putD
  split
  · rw [List.length_map]; omega
  · rw [List.length_append]; exact Nat.le_refl _
theorem dropD_len (kvs : List (κ × D)) (k : κ) : (dropD kvs k).length ≤ kvs.length := List.length_filter_le _ _
end
end Wp

/-! steps for keys that are tuples, d.get, dict(d); what stands at named places of the store; tables -/
namespace Wp
open PySem PySem.Spec PyProof.Rows L2

section
variable {S : Sto} {n : Nat} {ks : List L2.Key} {i : Int} {x y v : D} {Q : QD}
theorem bm_get1 : bmD .dget1 (.loc n) [y] S Q ↔ dgD (.loc n) y S fun r => Q (r.getD .non) S := Iff.rfl
theorem bm_get2 : bmD .dget2 (.loc n) [y, x] S Q ↔ dgD (.loc n) y S fun r => Q (r.getD x) S := Iff.rfl
def dictO : Option O → Prop
  | some (.dk _) => True
  | some (.dt _) => True
  | _ => False
theorem dictO_k {kvs : List (L2.Key × D)} : dictO (some (.dk kvs)) ↔ True := Iff.rfl
theorem dictO_t {kvs : List (List L2.Key × D)} : dictO (some (.dt kvs)) ↔ True := Iff.rfl
theorem mt_get : ((∃ kvs, S[n]? = some (.dk kvs)) ∨ ∃ kvs, S[n]? = some (.dt kvs)) ↔ dictO S[n]? := by
  constructor
  · rintro (⟨kvs, h⟩ | ⟨kvs, h⟩) <;> rw [h] <;> trivial
  · intro h
    cases e : S[n]? with
    | none => rw [e] at h; exact h.elim
    | some o =>
      rw [e] at h
      cases o with
      | dk kvs => exact .inl ⟨kvs, rfl⟩
      | dt kvs => exact .inr ⟨kvs, rfl⟩
      | _ => exact h.elim
theorem mt_dg1 : mtTy .dget1 (.loc n) S ↔ dictO S[n]? := mt_get
theorem mt_dg2 : mtTy .dget2 (.loc n) S ↔ dictO S[n]? := mt_get
def dcpO (S : Sto) (Q : QD) : Option O → Prop
  | some (.dk kvs) => Q (.loc S.length) (S ++ [.dk kvs])
  | some (.dt kvs) => (∀ p ∈ kvs, gridK p.1 = true) ∧ Q (.loc S.length) (S ++ [.dt kvs])
  | _ => False
theorem bl_dcopy : bltD .dcopy [.loc n] S Q ↔ dcpO S Q S[n]? := by
  constructor
  · rintro (⟨kvs, h, q⟩ | ⟨kvs, h, g, q⟩) <;> rw [h]
    · exact q
    · exact ⟨g, q⟩
  · intro h
    cases e : S[n]? with
    | none => rw [e] at h; exact h.elim
    | some o =>
      rw [e] at h
      cases o with
      | dk kvs => exact .inl ⟨kvs, e, h⟩
      | dt kvs => exact .inr ⟨kvs, e, h⟩
      | _ => exact h.elim
theorem dcp_k {kvs : List (L2.Key × D)} : dcpO S Q (some (.dk kvs)) ↔ Q (.loc S.length) (S ++ [.dk kvs]) := Iff.rfl
theorem dcp_t {kvs : List (List L2.Key × D)} : dcpO S Q (some (.dt kvs)) ↔ (∀ p ∈ kvs, gridK p.1 = true) ∧ Q (.loc S.length) (S ++ [.dt kvs]) := Iff.rfl
theorem ix_key : ixD (.key ks) (.int i) S Q ↔ ∃ v, atI (ks.map keyD) i = some v ∧ Q v S := Iff.rfl
theorem tg_key {ts : List Nat} {ρ : Env} {r : Env → Prop} : tgD (.tp ts) (.key ks) ρ r ↔ ∃ ρ', setAll ts (ks.map keyD) ρ = some ρ' ∧ r ρ' := Iff.rfl
theorem ky_str {z : Str} {r : List D} : keysOf (.str z :: r) = (keysOf r).map (Sum.inr z :: ·) := by
  show (match some (Sum.inr z : L2.Key), keysOf r with | some k, some ks => some (k :: ks) | _, _ => none) = _
  cases keysOf r <;> rfl
theorem kd_l {a : Int} : keyD (.inl a) = .int a := rfl
theorem kd_r {a : Str} : keyD (.inr a) = .str a := rfl
theorem gd_none {d : D} : (none : Option D).getD d = d := rfl
theorem gd_some {d e : D} : (some e : Option D).getD d = e := rfl
theorem isn_non : isNon .non = true := rfl
end

/-! ### places -/
theorem get_set_ne {S : Sto} {a b : Nat} {o : O} (h : a ≠ b) : (S.set a o)[b]? = S[b]? := List.getElem?_set_ne h
theorem get_set_eq {S : Sto} {a : Nat} {o : O} (h : a < S.length) : (S.set a o)[a]? = some o := List.getElem?_set_self h
theorem get_lt {S : Sto} {a : Nat} {o : O} (h : S[a]? = some o) : a < S.length := (List.getElem?_eq_some_iff.mp h).1
theorem lst_set_o {S : Sto} {a b : Nat} {o : O} (h : a ≠ b) : lstAt (S.set a o) b = lstAt S b := by
  unfold lstAt
  rw [List.getElem?_set_ne h]
/-! ### tables: keys that stand once -/
section
variable {κ : Type} [DecidableEq κ]
def keysN (a : List (κ × D)) : Prop := (a.map (·.1)).Nodup
theorem keysN_nil : keysN ([] : List (κ × D)) := List.nodup_nil
theorem valD_cons (p : κ × D) (r : List (κ × D)) (k : κ) : valD (p :: r) k = if p.1 = k then some p.2 else valD r k := by
  by_cases h : p.1 = k
  · simp [valD, List.find?_cons, h]
  · simp [valD, List.find?_cons, h]
theorem valD_mem {a : List (κ × D)} {k : κ} {v : D} (h : valD a k = some v) : (k, v) ∈ a := by
  unfold valD at h
  cases e : a.find? fun kv => decide (kv.1 = k) with
  | none => rw [e] at h; cases h
  | some p =>
    rw [e] at h
    cases h
    have := List.find?_some e
    simp only [decide_eq_true_eq] at this
    rw [← this]
    exact List.mem_of_find?_eq_some e
theorem valD_of {a : List (κ × D)} (hn : keysN a) {p : κ × D} (h : p ∈ a) : valD a p.1 = some p.2 := by
  induction a with
  | nil => cases h
  | cons q r ih =>
    unfold keysN at hn
    rw [List.map_cons, List.nodup_cons] at hn
    rw [valD_cons]
    rcases List.mem_cons.mp h with e | h
    · rw [e, if_pos rfl]
    · rw [if_neg]
      · exact ih hn.2 h
      · intro e
        exact hn.1 (List.mem_map.mpr ⟨p, h, e.symm⟩)
theorem valD_none {a : List (κ × D)} {k : κ} : valD a k = none ↔ k ∉ a.map (·.1) := by
  induction a with
  | nil => simp [valD]
  | cons p r ih =>
    rw [valD_cons, List.map_cons, List.mem_cons]
    by_cases e : p.1 = k
    · simp [e]
    · have e2 : ¬ k = p.1 := fun z => e z.symm
      simp only [e, if_false, e2, false_or]
      exact ih
theorem keysN_put {a : List (κ × D)} (hn : keysN a) (k : κ) (v : D) : keysN (putD a k v) := by
  unfold putD keysN
  split
  · have e : (a.map fun kv => if kv.1 = k then (kv.1, v) else kv).map (·.1) = a.map (·.1) := by
      rw [List.map_map]
      refine List.map_congr_left fun p _ => ?_
      show (if p.1 = k then (p.1, v) else p).1 = p.1
      split <;> rfl
    rw [e]
    exact hn
  · rename_i h
    rw [List.map_append, List.nodup_append]
    refine ⟨hn, by simp, fun x hx y hy e => ?_⟩
    rw [List.map_cons, List.map_nil, List.mem_singleton] at hy
    obtain ⟨p, hp, rfl⟩ := List.mem_map.mp hx
    exact h (List.any_eq_true.mpr ⟨p, hp, decide_eq_true (e.trans hy)⟩)
theorem keysN_drop {a : List (κ × D)} (hn : keysN a) (k : κ) : keysN (dropD a k) := by
  unfold keysN dropD at *
  exact (List.Nodup.sublist (List.Sublist.map _ (List.filter_sublist)) hn)
theorem keys_put {a : List (κ × D)} {k : κ} {v : D} {P : κ → Prop} (h : ∀ p ∈ a, P p.1) (hk : P k) : ∀ p ∈ putD a k v, P p.1 := by
  intro p hp
  unfold putD at hp
  split at hp
  · obtain ⟨q, hq, rfl⟩ := List.mem_map.mp hp
    split
    · exact h q hq
    · exact h q hq
  · rcases List.mem_append.mp hp with hp | hp
    · exact h p hp
    · rw [List.mem_singleton] at hp
      rw [hp]
      exact hk
theorem nodup_le {α : Type} [DecidableEq α] : ∀ {l m : List α}, l.Nodup → l ⊆ m → l.length ≤ m.length
  | [], _, _, _ => Nat.zero_le _
  | x :: r, m, hn, hs => by
    obtain ⟨h1, h2⟩ := List.nodup_cons.mp hn
    have hx : x ∈ m := hs List.mem_cons_self
    have ih := nodup_le (m := m.erase x) h2 fun y hy => (List.mem_erase_of_ne (fun e => h1 (by rw [← e]; exact hy))).mpr (hs (List.mem_cons_of_mem _ hy))
    have e := List.length_erase_of_mem hx
    have p := List.length_pos_of_mem hx
    rw [List.length_cons]
    omega
/-- two tables that hold the same have as many entries -/
theorem same_len {a b : List (κ × D)} (ha : keysN a) (hb : keysN b) (h : ∀ k, valD a k = valD b k) : a.length = b.length := by
  have sub : ∀ {a b : List (κ × D)}, (∀ k, valD a k = valD b k) → (a.map (·.1)) ⊆ (b.map (·.1)) := fun {a b} h k hk => by
    have e : valD a k ≠ none := fun z => valD_none.mp z hk
    rw [h] at e
    exact Classical.not_not.mp fun z => e (valD_none.mpr z)
  have l1 := nodup_le ha (sub h)
  have l2 := nodup_le hb (sub fun k => (h k).symm)
  rw [List.length_map, List.length_map] at l1 l2
  omega
end
/-- == of two such dicts -/
theorem deq_tt {S : Sto} {n m : Nat} {a b : List (List L2.Key × D)} (h1 : S[n]? = some (.dt a)) (h2 : S[m]? = some (.dt b)) (ha : keysN a) (hb : keysN b) (h : ∀ k, valD a k = valD b k) (hl : ∀ p ∈ a, leafD S p.2 p.2) : deqD n m S := by
  refine .inr ⟨a, b, h1, h2, same_len ha hb h, fun p hp => ⟨p.2, ?_, hl p hp⟩⟩
  rw [← h]
  exact valD_of ha hp
theorem leaf_py {S : Sto} {x : D} {d : PyData} (h : Py S 64 x d) : leafD S x x := by
  obtain ⟨⟨f, h1⟩, h2, _⟩ := h.to
  exact ⟨f, d, d, h1, h1, h.shaped, h.shaped, SeqAt.eqv_refl d h2⟩
theorem leaf_int {S : Sto} {i : Int} : leafD S (.int i) (.int i) := leaf_py (.int i)
/-! ### cells, stretches -/
def ck (a b : Int) : List L2.Key := [.inl a, .inl b]
theorem ck_map {a b : Int} : ([Sum.inl a, Sum.inl b] : List L2.Key).map keyD = [.int a, .int b] := rfl
theorem ck_inj {a b c d : Int} (h : ck a b = ck c d) : a = c ∧ b = d := by
  injection h with h1 h2
  injection h2 with h2
  exact ⟨Sum.inl.inj h1, Sum.inl.inj h2⟩
def isP (d : D) (a b : Int) : Prop := d = .tup [.int a, .int b] ∨ d = .key (ck a b)
theorem isP_t {a b x y : Int} : isP (.tup [.int a, .int b]) x y ↔ a = x ∧ b = y := by
  unfold isP
  constructor
  · rintro (h | h)
    · injection h with h; injection h with h1 h; injection h with h2 h; exact ⟨D.int.inj h1, D.int.inj h2⟩
    · cases h
  · rintro ⟨rfl, rfl⟩; exact .inl rfl
theorem isP_k {a b x y : Int} : isP (.key [Sum.inl a, Sum.inl b]) x y ↔ a = x ∧ b = y := by
  unfold isP
  constructor
  · rintro (h | h)
    · cases h
    · exact ck_inj (D.key.inj h)
  · rintro ⟨rfl, rfl⟩; exact .inr rfl
theorem isP_iff {d : D} {a b x y : Int} (h : isP d a b) : isP d x y ↔ a = x ∧ b = y := by
  rcases h with rfl | rfl
  · exact isP_t
  · exact isP_k
theorem ixP0 {d : D} {a b : Int} (h : isP d a b) (S : Sto) (Q : QD) : ixD d (.int 0) S Q ↔ Q (.int a) S := by
  rcases h with rfl | rfl
  · rw [ix_tup, at_0]; simp
  · unfold ck; rw [ix_key, ck_map, at_0]; simp
theorem ixP1 {d : D} {a b : Int} (h : isP d a b) (S : Sto) (Q : QD) : ixD d (.int 1) S Q ↔ Q (.int b) S := by
  rcases h with rfl | rfl
  · rw [ix_tup, at_1]; simp
  · unfold ck; rw [ix_key, ck_map, at_1]; simp
def inR (x y w h a b : Int) : Prop := x ≤ a ∧ a < x + w ∧ y ≤ b ∧ b < y + h
instance {x y w h a b : Int} : Decidable (inR x y w h a b) := by unfold inR; infer_instance
def gridT (kvs : List (List L2.Key × D)) (W H : Int) : Prop := ∀ p ∈ kvs, ∃ a b : Int, p.1 = ck a b ∧ inR 0 0 W H a b
def keepP (W H x y w h dx dy a b : Int) : Prop := ¬ (inR x y w h (a - dx) (b - dy) ∧ inR 0 0 W H (a - dx) (b - dy)) ∧ ¬ inR x y w h a b
instance {W H x y w h dx dy a b : Int} : Decidable (keepP W H x y w h dx dy a b) := by unfold keepP; infer_instance
def movedV (kvs : List (List L2.Key × D)) (W H x y w h dx dy a b : Int) : Option D :=
  if inR 0 0 W H a b then if inR x y w h (a - dx) (b - dy) ∧ inR 0 0 W H (a - dx) (b - dy) then valD kvs (ck (a - dx) (b - dy)) else if inR x y w h a b then none else valD kvs (ck a b) else none
theorem grid_val {kvs : List (List L2.Key × D)} {W H a b : Int} (h : gridT kvs W H) (hn : ¬ inR 0 0 W H a b) : valD kvs (ck a b) = none := by
  rw [valD_none]
  intro z
  obtain ⟨p, hp, e⟩ := List.mem_map.mp z
  obtain ⟨a', b', e2, r⟩ := h p hp
  obtain ⟨rfl, rfl⟩ := ck_inj (e2.symm.trans e)
  exact hn r
theorem moved_val {kvs : List (List L2.Key × D)} {W H x y w h dx dy a b : Int} (hg : gridT kvs W H) :
    (if inR x y w h (a - dx) (b - dy) ∧ inR 0 0 W H a b ∧ (valD kvs (ck (a - dx) (b - dy))).isSome = true then valD kvs (ck (a - dx) (b - dy)) else if keepP W H x y w h dx dy a b then valD kvs (ck a b) else none) = movedV kvs W H x y w h dx dy a b := by
  unfold movedV
  by_cases h1 : inR 0 0 W H a b
  · rw [if_pos h1]
    by_cases h2 : inR x y w h (a - dx) (b - dy) ∧ inR 0 0 W H (a - dx) (b - dy)
    · rw [if_pos h2]
      cases e : valD kvs (ck (a - dx) (b - dy)) with
      | none => rw [if_neg (by simp), if_neg (fun z => z.1 h2)]
      | some v => rw [if_pos ⟨h2.1, h1, rfl⟩]
    · rw [if_neg h2, if_neg]
      · by_cases h3 : inR x y w h a b
        · rw [if_neg (fun z => z.2 h3), if_pos h3]
        · rw [if_pos ⟨h2, h3⟩, if_neg h3]
      · rintro ⟨z1, _, z3⟩
        by_cases h4 : inR 0 0 W H (a - dx) (b - dy)
        · exact h2 ⟨z1, h4⟩
        · rw [grid_val hg h4] at z3
          cases z3
  · rw [if_neg h1, if_neg (fun z => h1 z.2.1), grid_val hg h1]
    split <;> rfl
theorem take_val {kvs : List (List L2.Key × D)} (hn : keysN kvs) {k : Nat} {a b : Int} {v : D} (hk : k < kvs.length) (e : kvs[k] = (ck a b, v)) {a' b' : Int} : valD (kvs.take (k + 1)) (ck a' b') = if a' = a ∧ b' = b then some v else valD (kvs.take k) (ck a' b') := by
  have e1 : kvs.take (k + 1) = kvs.take k ++ [(ck a b, v)] := by rw [List.take_succ, List.getElem?_eq_getElem hk, e]; rfl
  have hm : ck a b ∉ (kvs.take k).map (·.1) := fun z => by
    unfold keysN at hn
    have hd : kvs = kvs.take k ++ kvs.drop k := (List.take_append_drop k kvs).symm
    rw [hd, List.map_append, List.nodup_append] at hn
    exact hn.2.2 _ z _ (List.mem_map.mpr ⟨kvs[k], by rw [List.drop_eq_getElem_cons hk]; exact List.mem_cons_self, by rw [e]⟩) rfl
  rw [e1]
  by_cases q : a' = a ∧ b' = b
  · obtain ⟨rfl, rfl⟩ := q
    rw [if_pos ⟨rfl, rfl⟩]
    have := valD_none.mpr hm
    unfold valD at this ⊢
    rw [List.find?_append]
    cases e2 : (kvs.take k).find? (fun kv => decide (kv.1 = ck a' b')) with
    | some p => rw [e2] at this; cases this
    | none => simp
  · rw [if_neg q]
    unfold valD
    rw [List.find?_append]
    have : ¬ ck a b = ck a' b' := fun z => q (by obtain ⟨z1, z2⟩ := ck_inj z; exact ⟨z1.symm, z2.symm⟩)
    cases e2 : (kvs.take k).find? (fun kv => decide (kv.1 = ck a' b')) with
    | some p => rfl
    | none => simp [this]
theorem put_vals {acc kvs : List (List L2.Key × D)} {k : List L2.Key} {v : D} (h : ∀ p ∈ acc, ∃ q ∈ kvs, p.2 = q.2) (hv : ∃ q ∈ kvs, v = q.2) : ∀ p ∈ putD acc k v, ∃ q ∈ kvs, p.2 = q.2 := by
  intro p hp
  unfold putD at hp
  split at hp
  · obtain ⟨q, hq, rfl⟩ := List.mem_map.mp hp
    split
    · exact hv
    · exact h q hq
  · rcases List.mem_append.mp hp with hp | hp
    · exact h p hp
    · rw [List.mem_singleton] at hp
      rw [hp]
      exact hv
end Wp

namespace Wp
open PySem PySem.Spec PyProof.Rows L2
/-! ### the tables of law_k65_stretches_moved, printed by gen.py -/
abbrev f_law : Nat := 0
abbrev f_L_cell_at : Nat := 1
abbrev f_L_cells : Nat := 2
abbrev f_L_within : Nat := 3
abbrev f_L_due : Nat := 4
abbrev f_lies_in : Nat := 5
abbrev f_moved : Nat := 6
/-- law(_law_script): 0 _law_script, 1 _law_cell, 2 _law_size, 3 _law_cells_here, 4 _law_stretch, 5 _law_across, 6 _law_down, 7 _law_handed, 8 _law_due_here, 9 _law_turn, 10 _law_found -/
def r_law_10 : Bl := .cons (.ret (.bl true)) .nil
def r_law_9 : Bl := .cons (.for_ (.nm 9) (.rng1 (.int 2)) (.cons (.set 10 (.call f_moved (.cons (.var 7) (.cons (.var 2) (.cons (.var 4) (.cons (.var 5) (.cons (.var 6) .nil))))) 0)) (.cons (.ife (.ors (.cons (.nott (.tr (.isa (.var 10) [.dict]))) (.cons (.cmp (.var 10) [.dne] (.cons (.var 8) .nil)) (.cons (.cmp (.var 7) [.dne] (.cons (.var 3) .nil)) .nil)))) (.cons (.ret (.bl false)) .nil) .nil) (.cons (.dset (.var 10) (.key (.cons (.int 0) (.cons (.int 0) .nil))) (.str "more")) .nil)))) r_law_10
def r_law_8 : Bl := .cons (.set 8 (.call f_L_due (.cons (.var 3) (.cons (.var 2) (.cons (.var 4) (.cons (.var 5) (.cons (.var 6) .nil))))) 0)) r_law_9
def r_law_7 : Bl := .cons (.set 7 (.blt .dcopy (.cons (.var 3) .nil))) r_law_8
def r_law_6 : Bl := .cons (.set 6 (.bin .sub (.bin .mod (.call f_L_cell_at (.cons (.var 0) (.cons (.int 3) .nil)) 0) (.int 29)) (.int 14))) r_law_7
def r_law_5 : Bl := .cons (.set 5 (.bin .sub (.bin .mod (.call f_L_cell_at (.cons (.var 0) (.cons (.int 2) .nil)) 0) (.int 29)) (.int 14))) r_law_6
def r_law_4 : Bl := .cons (.set 4 (.tup (.cons (.bin .sub (.bin .mod (.var 1) (.int 20)) (.int 5)) (.cons (.bin .sub (.bin .mod (.bin .fdiv (.var 1) (.int 20)) (.int 20)) (.int 5)) (.cons (.bin .add (.int 1) (.bin .mod (.bin .fdiv (.var 1) (.int 400)) (.int 16))) (.cons (.bin .add (.int 1) (.bin .mod (.bin .fdiv (.var 1) (.int 6400)) (.int 16))) .nil)))))) r_law_5
def r_law_3 : Bl := .cons (.set 1 (.call f_L_cell_at (.cons (.var 0) (.cons (.int 1) .nil)) 0)) r_law_4
def r_law_2 : Bl := .cons (.set 3 (.call f_L_cells (.cons (.var 0) (.cons (.ix (.var 2) (.int 0)) (.cons (.ix (.var 2) (.int 1)) .nil))) 0)) r_law_3
def r_law_1 : Bl := .cons (.set 2 (.tup (.cons (.bin .add (.int 1) (.bin .mod (.var 1) (.int 12))) (.cons (.bin .add (.int 1) (.bin .mod (.bin .fdiv (.var 1) (.int 12)) (.int 12))) .nil)))) r_law_2
def b_law : Bl := .cons (.set 1 (.call f_L_cell_at (.cons (.var 0) (.cons (.int 0) .nil)) 0)) r_law_1
/-- _law_cell_at(_law_script, _law_k): 0 _law_script, 1 _law_k -/
def b_L_cell_at : Bl := (.cons (.ife (.cmp (.var 1) [.lt] (.cons (.blt .len (.cons (.var 0) .nil)) .nil)) (.cons (.ret (.ix (.var 0) (.var 1))) .nil) .nil) (.cons (.ret (.int 0)) .nil))
/-- _law_cells(_law_script, _law_wide, _law_high): 0 _law_script, 1 _law_wide, 2 _law_high, 3 _law_found, 4 _law_cell -/
def b_L_cells : Bl := (.cons (.set 3 (.dnew true)) (.cons (.for_ (.nm 4) (.over (.sl (.var 0) (.cons (.int 4) .nil) (.cons (.int 44) .nil))) (.cons (.dset (.var 3) (.key (.cons (.bin .mod (.var 4) (.var 1)) (.cons (.bin .mod (.bin .fdiv (.var 4) (.int 12)) (.var 2)) .nil))) (.bin .mod (.bin .fdiv (.var 4) (.int 144)) (.bin .pow (.int 10) (.int 6)))) .nil)) (.cons (.ret (.var 3)) .nil)))
/-- _law_within(_law_cell, _law_stretch): 0 _law_cell, 1 _law_stretch, 2 _law_x, 3 _law_y, 4 _law_wide, 5 _law_high -/
def b_L_within : Bl := (.cons (.setg (.tp [2, 3, 4, 5]) (.var 1)) (.cons (.ret (.ands (.cons (.cmp (.var 2) [.le, .lt] (.cons (.ix (.var 0) (.int 0)) (.cons (.bin .add (.var 2) (.var 4)) .nil))) (.cons (.cmp (.var 3) [.le, .lt] (.cons (.ix (.var 0) (.int 1)) (.cons (.bin .add (.var 3) (.var 5)) .nil))) .nil)))) .nil))
/-- _law_due(_law_cells_here, _law_size, _law_stretch, _law_across, _law_down): 0 _law_cells_here, 1 _law_size, 2 _law_stretch, 3 _law_across, 4 _law_down, 5 _law_found, 6 _law_x, 7 _law_y, 8 _law_back, 9 _law_thing -/
def b_L_due : Bl := (.cons (.set 5 (.dnew true)) (.cons (.for_ (.nm 6) (.rng1 (.ix (.var 1) (.int 0))) (.cons (.for_ (.nm 7) (.rng1 (.ix (.var 1) (.int 1))) (.cons (.set 8 (.key (.cons (.bin .sub (.var 6) (.var 3)) (.cons (.bin .sub (.var 7) (.var 4)) .nil)))) (.cons (.set 9 (.bm .dget1 (.var 0) (.cons (.key (.cons (.var 6) (.cons (.var 7) .nil))) .nil))) (.cons (.ife (.tr (.call f_L_within (.cons (.tup (.cons (.var 6) (.cons (.var 7) .nil))) (.cons (.var 2) .nil)) 0)) (.cons (.set 9 .non) .nil) .nil) (.cons (.ife (.ands (.cons (.tr (.call f_L_within (.cons (.var 8) (.cons (.var 2) .nil)) 0)) (.cons (.tr (.call f_L_within (.cons (.var 8) (.cons (.bin .add (.tup (.cons (.int 0) (.cons (.int 0) .nil))) (.var 1)) .nil)) 0)) .nil))) (.cons (.set 9 (.bm .dget1 (.var 0) (.cons (.var 8) .nil))) .nil) .nil) (.cons (.ife (.cmp (.var 9) [.isn] (.cons .non .nil)) (.cons (.dset (.var 5) (.key (.cons (.var 6) (.cons (.var 7) .nil))) (.var 9)) .nil) .nil) .nil)))))) .nil)) (.cons (.ret (.var 5)) .nil)))
/-- lies_in(cell, place, size): 0 cell, 1 place, 2 size -/
def b_lies_in : Bl := (.cons (.ret (.ands (.cons (.cmp (.ix (.var 1) (.int 0)) [.le, .lt] (.cons (.ix (.var 0) (.int 0)) (.cons (.bin .add (.ix (.var 1) (.int 0)) (.ix (.var 2) (.int 0))) .nil))) (.cons (.cmp (.ix (.var 1) (.int 1)) [.le, .lt] (.cons (.ix (.var 0) (.int 1)) (.cons (.bin .add (.ix (.var 1) (.int 1)) (.ix (.var 2) (.int 1))) .nil))) .nil)))) .nil)
/-- moved(cells, size, stretch, across, down): 0 cells, 1 size, 2 stretch, 3 across, 4 down, 5 found, 6 x, 7 y, 8 wide, 9 high, 10 cell, 11 thing, 12 back, 13 covered, 14 aim -/
def r_moved_4 : Bl := .cons (.ret (.var 5)) .nil
def r_moved_3 : Bl := .cons (.lock (.for_ (.tp [10, 11]) (.items (.var 0)) (.cons (.set 14 (.key (.cons (.bin .add (.ix (.var 10) (.int 0)) (.var 3)) (.cons (.bin .add (.ix (.var 10) (.int 1)) (.var 4)) .nil)))) (.cons (.ife (.ands (.cons (.tr (.call f_lies_in (.cons (.var 10) (.cons (.tup (.cons (.var 6) (.cons (.var 7) .nil))) (.cons (.tup (.cons (.var 8) (.cons (.var 9) .nil))) .nil))) 0)) (.cons (.tr (.call f_lies_in (.cons (.var 14) (.cons (.tup (.cons (.int 0) (.cons (.int 0) .nil))) (.cons (.var 1) .nil))) 0)) .nil))) (.cons (.dset (.var 5) (.var 14) (.var 11)) .nil) .nil) .nil)))) r_moved_4
def r_moved_2 : Bl := .cons (.lock (.for_ (.tp [10, 11]) (.items (.var 0)) (.cons (.set 12 (.tup (.cons (.bin .sub (.ix (.var 10) (.int 0)) (.var 3)) (.cons (.bin .sub (.ix (.var 10) (.int 1)) (.var 4)) .nil)))) (.cons (.set 13 (.ands (.cons (.call f_lies_in (.cons (.var 12) (.cons (.tup (.cons (.var 6) (.cons (.var 7) .nil))) (.cons (.tup (.cons (.var 8) (.cons (.var 9) .nil))) .nil))) 0) (.cons (.call f_lies_in (.cons (.var 12) (.cons (.tup (.cons (.int 0) (.cons (.int 0) .nil))) (.cons (.var 1) .nil))) 0) .nil)))) (.cons (.ife (.ands (.cons (.nott (.tr (.var 13))) (.cons (.nott (.tr (.call f_lies_in (.cons (.var 10) (.cons (.tup (.cons (.var 6) (.cons (.var 7) .nil))) (.cons (.tup (.cons (.var 8) (.cons (.var 9) .nil))) .nil))) 0))) .nil))) (.cons (.dset (.var 5) (.var 10) (.var 11)) .nil) .nil) .nil))))) r_moved_3
def r_moved_1 : Bl := .cons (.set 5 (.dnew true)) r_moved_2
def b_moved : Bl := .cons (.setg (.tp [6, 7, 8, 9]) (.var 2)) r_moved_1
/-! ### the law -/
def intsT (kvs : List (List L2.Key × D)) : Prop := ∀ p ∈ kvs, ∃ i : Int, p.2 = .int i
theorem ints_put {acc : List (List L2.Key × D)} {k : List L2.Key} {i : Int} (h : intsT acc) : intsT (putD acc k (.int i)) := by
  intro p hp
  unfold putD at hp
  split at hp
  · obtain ⟨q, hq, rfl⟩ := List.mem_map.mp hp
    split
    · exact ⟨i, rfl⟩
    · exact h q hq
  · rcases List.mem_append.mp hp with hp | hp
    · exact h p hp
    · rw [List.mem_singleton] at hp
      rw [hp]
      exact ⟨i, rfl⟩
theorem ints_val {kvs : List (List L2.Key × D)} (h : intsT kvs) (k : List L2.Key) : valD kvs k = none ∨ ∃ i : Int, valD kvs k = some (.int i) := by
  cases e : valD kvs k with
  | none => exact .inl rfl
  | some v =>
    obtain ⟨i, hi⟩ := h _ (valD_mem e)
    exact .inr ⟨i, by rw [← hi]⟩
theorem moved_int {kvs : List (List L2.Key × D)} (h : intsT kvs) {W H x y w hh dx dy a b : Int} : movedV kvs W H x y w hh dx dy a b = none ∨ ∃ i : Int, movedV kvs W H x y w hh dx dy a b = some (.int i) := by
  unfold movedV
  split
  · split
    · exact ints_val h _
    · split
      · exact .inl rfl
      · exact ints_val h _
  · exact .inl rfl
theorem isn_int {i : Int} : isNon (.int i) = false := rfl
theorem grid_K {kvs : List (List L2.Key × D)} {W H : Int} (h : gridT kvs W H) (hW : W ≤ 12) (hH : H ≤ 12) {p : List L2.Key × D} (hp : p ∈ kvs) : gridK p.1 = true := by
  obtain ⟨a, b, e, r⟩ := h p hp
  unfold inR at r
  rw [e]
  unfold ck gridK
  simp
  omega
theorem grid_len {kvs : List (List L2.Key × D)} {W H : Int} (hn : keysN kvs) (h : gridT kvs W H) (hW : W ≤ 12) (hH : H ≤ 12) : kvs.length ≤ 256 := by
  have hs : kvs.map (·.1) ⊆ (List.range 256).map fun n => ck ((n / 16 : Nat) : Int) ((n % 16 : Nat) : Int) := fun k hk => by
    obtain ⟨p, hp, rfl⟩ := List.mem_map.mp hk
    obtain ⟨a, b, e, r⟩ := h p hp
    unfold inR at r
    obtain ⟨i, rfl⟩ := Int.eq_ofNat_of_zero_le r.1
    obtain ⟨j, rfl⟩ := Int.eq_ofNat_of_zero_le r.2.2.1
    rw [e]
    refine List.mem_map.mpr ⟨16 * i + j, List.mem_range.mpr (by omega), ?_⟩
    rw [show (16 * i + j) / 16 = i by omega, show (16 * i + j) % 16 = j by omega]
  have := nodup_le hn hs
  rw [List.length_map, List.length_map, List.length_range] at this
  exact this
def c_L_cell_at : Ctr := fun ds S Q _ => ∃ (ns : List Int) (k : Int), ds = [.rol (ns.map .int), .int k] ∧ 0 ≤ k ∧ Q (.int (ns.getD k.toNat 0)) S
theorem m_L_cell_at : MonC c_L_cell_at := fun _ _ _ _ _ _ hq _ ⟨ns, k, a, b, q⟩ => ⟨ns, k, a, b, hq _ _ q⟩
def c_L_cells : Ctr := fun ds S Q Y => ∃ (ns : List Int) (W H : Int), ds = [.rol (ns.map .int), .int W, .int H] ∧ ns.length ≤ 63 ∧ 0 < W ∧ W ≤ 12 ∧ 0 < H ∧ H ≤ 12 ∧
  ∀ kvs, keysN kvs → gridT kvs W H → intsT kvs → kvs.length ≤ 100 → Q (.loc S.length) (S ++ [.dt kvs])
theorem m_L_cells : MonC c_L_cells := fun _ _ _ _ _ _ hq hy ⟨ns, W, H, e1, h1, h2, h3, h4, h5, q⟩ => ⟨ns, W, H, e1, h1, h2, h3, h4, h5, fun kvs a b c d => hq _ _ (q kvs a b c d)⟩
def c_L_within : Ctr := fun ds S Q Y => ∃ (d : D) (a b x y w h : Int), ds = [d, .tup [.int x, .int y, .int w, .int h]] ∧ isP d a b ∧ Q (.bl (decide (inR x y w h a b))) S
theorem m_L_within : MonC c_L_within := fun _ _ _ _ _ _ hq hy ⟨d, a, b, x, y, w, h, e1, h1, q⟩ => ⟨d, a, b, x, y, w, h, e1, h1, hq _ _ q⟩
def c_L_due : Ctr := fun ds S Q Y => ∃ (c : Nat) (kvs : List (List L2.Key × D)) (W H x y w h dx dy : Int), ds = [.loc c, .tup [.int W, .int H], .tup [.int x, .int y, .int w, .int h], .int dx, .int dy] ∧ S[c]? = some (.dt kvs) ∧ intsT kvs ∧ 0 < W ∧ W ≤ 12 ∧ 0 < H ∧ H ≤ 12 ∧
  ∀ kvs', keysN kvs' → gridT kvs' W H → intsT kvs' → kvs'.length ≤ 1000 → (∀ a b, valD kvs' (ck a b) = movedV kvs W H x y w h dx dy a b) → Q (.loc S.length) (S ++ [.dt kvs'])
theorem m_L_due : MonC c_L_due := fun _ _ _ _ _ _ hq hy ⟨c, kvs, W, H, x, y, w, h, dx, dy, e1, h1, h2, h3, h4, h5, h6, q⟩ => ⟨c, kvs, W, H, x, y, w, h, dx, dy, e1, h1, h2, h3, h4, h5, h6, fun kvs' a b c d e => hq _ _ (q kvs' a b c d e)⟩
def c_lies_in : Ctr := fun ds S Q Y => ∃ (d e f : D) (a b x y w h : Int), ds = [d, e, f] ∧ isP d a b ∧ isP e x y ∧ isP f w h ∧ Q (.bl (decide (inR x y w h a b))) S
theorem m_lies_in : MonC c_lies_in := fun _ _ _ _ _ _ hq hy ⟨d, e, f, a, b, x, y, w, h, e1, h1, h2, h3, q⟩ => ⟨d, e, f, a, b, x, y, w, h, e1, h1, h2, h3, hq _ _ q⟩
def c_moved : Ctr := fun ds S Q Y => ∃ (c : Nat) (kvs : List (List L2.Key × D)) (W H x y w h dx dy : Int) (z : D), ds = [.loc c, z, .tup [.int x, .int y, .int w, .int h], .int dx, .int dy] ∧ isP z W H ∧ S[c]? = some (.dt kvs) ∧ keysN kvs ∧ gridT kvs W H ∧ kvs.length ≤ 1000 ∧
  ∀ kvs', keysN kvs' → gridT kvs' W H → (∀ a b, valD kvs' (ck a b) = movedV kvs W H x y w h dx dy a b) → (∀ p ∈ kvs', ∃ q ∈ kvs, p.2 = q.2) → Q (.loc S.length) (S ++ [.dt kvs'])
theorem m_moved : MonC c_moved := fun _ _ _ _ _ _ hq hy ⟨c, kvs, W, H, x, y, w, h, dx, dy, z, e1, h1, h2, h3, h4, h5, q⟩ => ⟨c, kvs, W, H, x, y, w, h, dx, dy, z, e1, h1, h2, h3, h4, h5, fun kvs' a b c d => hq _ _ (q kvs' a b c d)⟩
def exsL : List (Nat × XC × Bool) := []
def mthL : List (Nat × Nat × Nat) := []
def attrL : List (Nat × Nat) := []
def isaL : List (TyC × Cl × Bool) := []
def mthdL : List (Nat × Nat × Nat) := []
theorem mthd_mem {C m f : Nat} (h : mthdL.contains (C, m, f) = true) : (C, m, f) ∈ mthdL := List.contains_iff_mem.mp h
def dflT (f : Nat) : List D := match f with
  | _ => []
def G : Tab where
  ctr := fun f => match f with
    | 0 => lawSpec.ctr
    | 1 => c_L_cell_at
    | 2 => c_L_cells
    | 3 => c_L_within
    | 4 => c_L_due
    | 5 => c_lies_in
    | 6 => c_moved
    | _ => fun _ _ _ _ => False
  glob := fun g => match g with
    | _ => .non
  mth := mthOf mthL
  init := fun C => [].getD C 999
  isa := isaG isaL
  attr := fun C f => attrL.contains (C, f)
  dfl := fun f dn => (dflT f).drop ((dflT f).length - dn)
  exs := exsOf exsL
  mthd := fun C m f => mthdL.contains (C, m, f)
theorem gMono : G.Mono := ⟨fun f => by
  match f with
  | 0 => exact lawSpec.mono
  | 1 => exact m_L_cell_at
  | 2 => exact m_L_cells
  | 3 => exact m_L_within
  | 4 => exact m_L_due
  | 5 => exact m_lies_in
  | 6 => exact m_moved
  | _ + 7 => exact fun _ _ _ _ _ _ _ _ h => h⟩
theorem g_law : G.ctr f_law = lawSpec.ctr := rfl
theorem g_L_cell_at : G.ctr f_L_cell_at = c_L_cell_at := rfl
theorem g_L_cells : G.ctr f_L_cells = c_L_cells := rfl
theorem g_L_within : G.ctr f_L_within = c_L_within := rfl
theorem g_L_due : G.ctr f_L_due = c_L_due := rfl
theorem g_lies_in : G.ctr f_lies_in = c_lies_in := rfl
theorem g_moved : G.ctr f_moved = c_moved := rfl
theorem es_0_0 {S : Sto} {k : Bool → Prop} : eqD (.str "more") (.str "more") S k ↔ k true := eq_sb (by decide +kernel) (by decide +kernel) (by decide +kernel)
theorem g_dfl : G.dfl 0 0 = [] ∧ G.dfl 1 0 = [] ∧ G.dfl 2 0 = [] ∧ G.dfl 3 0 = [] ∧ G.dfl 4 0 = [] ∧ G.dfl 5 0 = [] ∧ G.dfl 6 0 = [] := ⟨rfl, rfl, rfl, rfl, rfl, rfl, rfl⟩
theorem gb_all : G.isa .non .int = some false ∧ G.isa .non .bool = some false ∧ G.isa .non .str = some false ∧ G.isa .non .tuple = some false ∧ G.isa .non .list = some false ∧ G.isa .non .dict = some false ∧ G.isa .bool .int = some true ∧ G.isa .bool .bool = some true ∧ G.isa .bool .str = some false ∧ G.isa .bool .tuple = some false ∧ G.isa .bool .list = some false ∧ G.isa .bool .dict = some false ∧ G.isa .int .int = some true ∧ G.isa .int .bool = some false ∧ G.isa .int .str = some false ∧ G.isa .int .tuple = some false ∧ G.isa .int .list = some false ∧ G.isa .int .dict = some false ∧ G.isa .str .int = some false ∧ G.isa .str .bool = some false ∧ G.isa .str .str = some true ∧ G.isa .str .tuple = some false ∧ G.isa .str .list = some false ∧ G.isa .str .dict = some false ∧ G.isa .tuple .int = some false ∧ G.isa .tuple .bool = some false ∧ G.isa .tuple .str = some false ∧ G.isa .tuple .tuple = some true ∧ G.isa .tuple .list = some false ∧ G.isa .tuple .dict = some false ∧ G.isa .list .int = some false ∧ G.isa .list .bool = some false ∧ G.isa .list .str = some false ∧ G.isa .list .tuple = some false ∧ G.isa .list .list = some true ∧ G.isa .list .dict = some false ∧ G.isa .dict .int = some false ∧ G.isa .dict .bool = some false ∧ G.isa .dict .str = some false ∧ G.isa .dict .tuple = some false ∧ G.isa .dict .list = some false ∧ G.isa .dict .dict = some true := ⟨rfl, rfl, rfl, rfl, rfl, rfl, rfl, rfl, rfl, rfl, rfl, rfl, rfl, rfl, rfl, rfl, rfl, rfl, rfl, rfl, rfl, rfl, rfl, rfl, rfl, rfl, rfl, rfl, rfl, rfl, rfl, rfl, rfl, rfl, rfl, rfl, rfl, rfl, rfl, rfl, rfl, rfl⟩
local macro_rules | `(tactic| walk_at "wp") => `(tactic| simp only [isP_t, isP_k, ck_map, bm_get1, bm_get2, mt_dg1, mt_dg2, dictO_k, dictO_t, bl_dcopy, dcp_k, dcp_t, ix_key, tg_key, ky_str, kd_l, kd_r, gd_none, gd_some, isn_non, dgf_t, dgf_i, bl_dlist, bm_dcl, mt_dcl, O.fk.injEq, dg_t, dg_i, dg_s, dp_t, dp_i, dp_s, ky_nil, ky_int, bm_dp1, bm_dp2, mt_dp1, mt_dp2, srt_loc, cop_deq, cop_dne, Option.map_some, O.dk.injEq, O.dt.injEq, D.key.injEq, Nat.reduceBEq, pw_0, pw_1, pw_2, pw_3, pw_4, forall_eq', forall_eq, set_len, set_set, lst_sapp0, lst_sappk, sapp_len, bm_ins, bm_popA, bm_ext, mt_ins, mt_popA, mt_ext, cop_isb, cop_isnb, cop_in, cop_nin, stay_q, eq_i2, List.drop_succ_cons, List.drop_zero, sl_rol, sl_loc, sl_tup1, cut_hi, cut_lo, cut_two, ← List.map_take, ← List.map_drop,  man_0, man_1, man_2, man_3, man_4, mans_0, mans_1, mans_2, mans_3, mans_4, ex_one, ex_yes, ex_no, D.exc.injEq, Nat.add_assoc, pick_ttt, pick_ttf, pick_tf, pick_f, and_false, false_and, ixn_0, ixn_1, ixn_2, ixn_3, ixn_4, eq_q2, eq_q5, rng_0, rng_1, rng_2, rng_3, rng_4, rng_5, at_0, at_1, at_2, at_3, at_4, bools_nil, bools_cons, all_loc, Option.map_some, List.all_cons, List.all_nil, id_eq, and_self, Rat.one_mul, Rat.mul_one, Rat.zero_mul, Rat.mul_zero, Rat.add_zero, Rat.zero_add, wipeE, Tg.slots, denB, denS, den, denA, denT, denTA, denI, argsD, andsD, orsD, andsT, orsT, chainD, partD, setAll, bin_ii, bin_ss, bin_tt, bin_ll, int_add, int_sub, int_mul, int_fdiv, int_mod, int_pow, cop_lt, cop_le, cop_gt, cop_ge, cop_eq, cop_ne, cop_is, cop_isn, non_non, non_bl, non_int, non_str, non_tup, non_loc, non_q, tru_non, tru_bl, tru_int, tru_tup, tru_rol, tru_loc, len_tup, len_rol, len_loc, len_str, abs_int, min_int, max_int, tuple_tup, tuple_rol, tuple_loc, list_tup, list_rol, list_loc, int_int, int_bl, dm_int, bm_app, bm_clr, bm_upp, mt_app, mt_clr, mt_upp, it_tup, it_rol, it_loc, it_q, stay_tup, stay_rol, stay_locE, tg_nm, tg_tp, rest_as, ty_non, ty_bl, ty_int, ty_str, ty_tup, ty_rol, ty_loc, isa_one, isa_yes, isa_no, isaB_all, fmod_lit, fdiv_lit,  ends_nx, ends_rt, ends_ex, den_zero, Rat.num_divInt_den, rest_as, startE, List.map_cons, List.map_nil, List.length_cons, List.length_nil, Nat.reduceAdd, Nat.reduceSub, List.replicate_succ, List.replicate_zero, List.cons_append, List.nil_append, List.append_nil, List.getElem?_cons_zero, List.getElem?_cons_succ, List.set_cons_zero, List.set_cons_succ, Option.some.injEq, D.int.injEq, D.bl.injEq, D.str.injEq, D.rol.injEq, D.tup.injEq, D.loc.injEq, List.cons.injEq, exists_eq, exists_eq', exists_eq_left, exists_eq_left', exists_eq_right, exists_eq_right', exists_and_left, and_assoc, true_and, and_true, O.ins.injEq, List.lookup_nil, ty_ins, gb_all, br_true, br_false, br_dec, br_ndec, br_beq, br_bne, br_not, br_same, ix_q0, ix_q1, eq_ii, ix_tup, ix_rol, ix_loc, ints_inj, div_ok, mul_okR, mul_okL, pow_ok, lst_at0, lst_at, get_at0, get_at, set_at0, set_at, lst_hit, lst_skip, set_hit, set_skip, List.append_assoc, List.length_append, List.length_map, Int.reduceEq, Int.reduceNe, Int.reduceLT, Int.reduceLE, Int.reduceToNat, Int.reduceAdd, Int.reduceSub, Int.reduceMul, Int.reduceMod, Int.reduceDiv, Int.reduceAbs, Int.cast_ofNat_Int, Int.natAbs_neg, Int.reducePow, Int.reduceNeg, Nat.reduceLT, Nat.reduceLeDiff, Nat.reduceEqDiff, not_true_eq_false, not_false_eq_true, decide_true, decide_false, Classical.not_not, eq_self, reduceCtorEq, Bool.not_true, Bool.not_false, false_implies, implies_true, true_implies, qD_inj, len_q, ty_q, eq_qb, plus_as, minus_as, times_as, lt_asP, num_lt0, den_lt, le_as, eq_bb, lt_self, beq_self_eq_true, Bool.and_true, Bool.true_and, q_neg, q_zero, q_one, q_13, q_m25, ne_eq, not_false_eq_true, g_dfl, g_L_cell_at, g_L_cells, g_L_within, g_L_due, g_lies_in, g_moved, es_0_0, isn_int])
local macro_rules | `(tactic| walk_at "ws") => `(tactic| (show denB _ (Bl.cons _ _) _ _ _; rw [denB_step]; walk_at "wc"))
local macro_rules | `(tactic| walk_at "wl") => `(tactic| (simp only [lcD, forD]; walk_at "wc"))
local macro_rules | `(tactic| walk_at "eq") => `(tactic| (refine eq_by (f := 64) rfl rfl (by first | rfl | decide +kernel) (by first | rfl | decide +kernel) ?_; (try simp only [PyData.eqv, PyData.eqvAll]); try walk_at "wc"))
local macro_rules | `(tactic| walk_at "fj") => `(tactic| (refine fin_junk ?_ (by simp only [clo_tup, clo_cons, clo_nil, clo_q, clo_int, clo_bl, clo_str, clo_non, and_self])))
local macro_rules | `(tactic| walk_at "eqs") => `(tactic| (refine eq_same (f := 64) rfl rfl (by first | rfl | decide +kernel) ?_; try walk_at "wc"))
local macro_rules | `(tactic| walk_at "eqx") => `(tactic| first | walk_at "eqs" | walk_at "eq")
local macro_rules | `(tactic| walk_at "py") => `(tactic| first
  | assumption
  | exact .non
  | exact .bl _
  | exact .int _
  | exact Py.q _
  | exact Pys.nil
  | (refine Py.str ?_; decide +kernel)
  | (refine Py.tup (ds := ?ds) ?h; (case h => walk_at "py"))
  | (refine Py.rol (ds := ?ds) ?h; (case h => walk_at "py"))
  | (refine Py.loc (xs := ?xs) (ds := ?ds) ?g ?h; (case g => first | rfl | assumption | (refine lst_old ?_; assumption) | (refine lst_at0.trans ?_; rfl) | (refine lst_at.trans ?_; rfl)); (case h => walk_at "py"))
  | (refine Pys.cons (d := ?d) (ds := ?ds) ?h ?k; (case h => walk_at "py"); (case k => walk_at "py")))
local macro_rules | `(tactic| walk_at "eqp") => `(tactic| (refine eq_pys (d := ?d) ?h ?k ?z; (case h => walk_at "py"); (case k => walk_at "py"); try walk_at "wc"))
local macro_rules | `(tactic| walk_at "eqv") => `(tactic| (refine (eq_py (d := ?d) (e := ?e) ?h ?k).mpr ?z; (case h => walk_at "py"); (case k => walk_at "py")))
local macro_rules | `(tactic| walk_at "qs") => `(tactic| first
  | assumption
  | exact qs_zero
  | exact qs_one
  | exact qs_13
  | exact qs_m25
  | (refine Qs.plus (m := ?m) (n := ?n) ?h ?k; (case h => walk_at "qs"); (case k => walk_at "qs"))
  | (refine Qs.minus (m := ?m) (n := ?n) ?h ?k; (case h => walk_at "qs"); (case k => walk_at "qs"))
  | (refine Qs.mul (m := ?m) (n := ?n) ?h ?k; (case h => walk_at "qs"); (case k => walk_at "qs"))
  | (refine Qs.neg (m := ?m) ?h; (case h => walk_at "qs")))
local macro_rules | `(tactic| walk_at "sz") => `(tactic| first
  | assumption
  | (refine Qs.num (n := ?m) ?h; (case h => walk_at "qs"))
  | (refine Qs.den (n := ?m) ?h; (case h => walk_at "qs"))
  | (refine Sz.mul (m := ?m) (n := ?n) ?h ?k; (case h => walk_at "sz"); (case k => walk_at "sz"))
  | (refine Sz.add (m := ?m) (n := ?n) ?h ?k; (case h => walk_at "sz"); (case k => walk_at "sz"))
  | (refine Sz.sub (m := ?m) (n := ?n) ?h ?k; (case h => walk_at "sz"); (case k => walk_at "sz"))
  | (refine Sz.neg (m := ?m) ?h; (case h => walk_at "sz")))
local macro_rules | `(tactic| walk_at "ob") => `(tactic| first
  | assumption
  | exact den_ne _
  | exact Int.mul_ne_zero (den_ne _) (den_ne _)
  | (refine sz_mul (a := ?m) (b := ?n) ?h ?k ?l; (case h => walk_at "sz"); (case k => walk_at "sz"); (case l => decide))
  | (refine Qs.mono (m := ?m) ?h ?l; (case h => walk_at "qs"); (case l => decide))
  | (refine Sz.mono (m := ?m) ?h ?l; (case h => walk_at "sz"); (case l => decide))
  | (refine sz_div (n := ?m) ?g ?h ?l; (case g => (first | assumption | omega)); (case h => walk_at "sz"); (case l => decide))
  | omega)
local macro_rules | `(tactic| walk_at "alg") => `(tactic| (repeat' refine And.intro ?_ ?_) <;> grind)
local macro_rules | `(tactic| walk_at "yes") => `(tactic| (refine And.intro (fun _ => ?_) (fun e => absurd ?h e); (case h => walk_at "alg")))
local macro_rules | `(tactic| walk_at "no") => `(tactic| (refine And.intro (fun e => absurd e ?h) (fun _ => ?_); (case h => walk_at "alg")))
local macro_rules | `(tactic| walk_at "sp") => `(tactic| repeat (refine And.intro (by walk_at "ob") ?_))
local macro_rules | `(tactic| walk_at "wc") => `(tactic| simp only [isP_t, isP_k, ck_map, bm_get1, bm_get2, mt_dg1, mt_dg2, dictO_k, dictO_t, bl_dcopy, dcp_k, dcp_t, ix_key, tg_key, ky_str, kd_l, kd_r, gd_none, gd_some, isn_non, dgf_t, dgf_i, bl_dlist, bm_dcl, mt_dcl, O.fk.injEq, dg_t, dg_i, dg_s, dp_t, dp_i, dp_s, ky_nil, ky_int, bm_dp1, bm_dp2, mt_dp1, mt_dp2, srt_loc, cop_deq, cop_dne, Option.map_some, O.dk.injEq, O.dt.injEq, D.key.injEq, Nat.reduceBEq, pw_0, pw_1, pw_2, pw_3, pw_4, forall_eq', forall_eq, set_len, set_set, lst_sapp0, lst_sappk, sapp_len, bm_ins, bm_popA, bm_ext, mt_ins, mt_popA, mt_ext, cop_isb, cop_isnb, cop_in, cop_nin, stay_q, eq_i2, List.drop_succ_cons, List.drop_zero, sl_rol, sl_loc, sl_tup1, cut_hi, cut_lo, cut_two, ← List.map_take, ← List.map_drop,  man_0, man_1, man_2, man_3, man_4, mans_0, mans_1, mans_2, mans_3, mans_4, ex_one, ex_yes, ex_no, D.exc.injEq, Nat.add_assoc, pick_ttt, pick_ttf, pick_tf, pick_f, and_false, false_and, ixn_0, ixn_1, ixn_2, ixn_3, ixn_4, eq_q2, eq_q5, rng_0, rng_1, rng_2, rng_3, rng_4, rng_5, at_0, at_1, at_2, at_3, at_4, bools_nil, bools_cons, all_loc, Option.map_some, List.all_cons, List.all_nil, id_eq, and_self, Rat.one_mul, Rat.mul_one, Rat.zero_mul, Rat.mul_zero, Rat.add_zero, Rat.zero_add, wipeE, Tg.slots, denB, denS, den, denA, denT, denTA, denI, argsD, andsD, orsD, andsT, orsT, chainD, partD, setAll, bin_ii, bin_ss, bin_tt, bin_ll, int_add, int_sub, int_mul, int_fdiv, int_mod, int_pow, cop_lt, cop_le, cop_gt, cop_ge, cop_eq, cop_ne, cop_is, cop_isn, non_non, non_bl, non_int, non_str, non_tup, non_loc, non_q, tru_non, tru_bl, tru_int, tru_tup, tru_rol, tru_loc, len_tup, len_rol, len_loc, len_str, abs_int, min_int, max_int, tuple_tup, tuple_rol, tuple_loc, list_tup, list_rol, list_loc, int_int, int_bl, dm_int, bm_app, bm_clr, bm_upp, mt_app, mt_clr, mt_upp, it_tup, it_rol, it_loc, it_q, stay_tup, stay_rol, stay_locE, tg_nm, tg_tp, rest_as, ty_non, ty_bl, ty_int, ty_str, ty_tup, ty_rol, ty_loc, isa_one, isa_yes, isa_no, isaB_all, fmod_lit, fdiv_lit,  ends_nx, ends_rt, ends_ex, den_zero, Rat.num_divInt_den, rest_as, startE, List.map_cons, List.map_nil, List.length_cons, List.length_nil, Nat.reduceAdd, Nat.reduceSub, List.replicate_succ, List.replicate_zero, List.cons_append, List.nil_append, List.append_nil, List.getElem?_cons_zero, List.getElem?_cons_succ, List.set_cons_zero, List.set_cons_succ, Option.some.injEq, D.int.injEq, D.bl.injEq, D.str.injEq, D.rol.injEq, D.tup.injEq, D.loc.injEq, List.cons.injEq, exists_eq, exists_eq', exists_eq_left, exists_eq_left', exists_eq_right, exists_eq_right', exists_and_left, and_assoc, true_and, and_true, O.ins.injEq, List.lookup_nil, ty_ins, gb_all, br_true, br_false, br_dec, br_ndec, br_beq, br_bne, br_not, br_same, ix_q0, ix_q1, eq_ii, ix_tup, ix_rol, ix_loc, ints_inj, div_ok, mul_okR, mul_okL, pow_ok, lst_at0, lst_at, get_at0, get_at, set_at0, set_at, lst_hit, lst_skip, set_hit, set_skip, List.append_assoc, List.length_append, List.length_map, Int.reduceEq, Int.reduceNe, Int.reduceLT, Int.reduceLE, Int.reduceToNat, Int.reduceAdd, Int.reduceSub, Int.reduceMul, Int.reduceMod, Int.reduceDiv, Int.reduceAbs, Int.cast_ofNat_Int, Int.natAbs_neg, Int.reducePow, Int.reduceNeg, Nat.reduceLT, Nat.reduceLeDiff, Nat.reduceEqDiff, not_true_eq_false, not_false_eq_true, decide_true, decide_false, Classical.not_not, eq_self, reduceCtorEq, Bool.not_true, Bool.not_false, false_implies, implies_true, true_implies, qD_inj, len_q, ty_q, eq_qb, plus_as, minus_as, times_as, lt_asP, num_lt0, den_lt, le_as, eq_bb, lt_self, beq_self_eq_true, Bool.and_true, Bool.true_and, q_neg, q_zero, q_one, q_13, q_m25, ne_eq, not_false_eq_true, g_dfl, g_L_cell_at, g_L_cells, g_L_within, g_L_due, g_lies_in, g_moved, es_0_0, isn_int, c16, cGcd, cPlus, cMinus, cTimes, cLess, cLaid, cBehind, c_L_cell_at, c_L_cells, c_L_within, c_L_due, c_lies_in, c_moved])
set_option hygiene false in
local macro_rules | `(tactic| walk_at "wd") => `(tactic| simp only [isP_t, isP_k, ck_map, bm_get1, bm_get2, mt_dg1, mt_dg2, dictO_k, dictO_t, bl_dcopy, dcp_k, dcp_t, ix_key, tg_key, ky_str, kd_l, kd_r, gd_none, gd_some, isn_non, dgf_t, dgf_i, bl_dlist, bm_dcl, mt_dcl, O.fk.injEq, dg_t, dg_i, dg_s, dp_t, dp_i, dp_s, ky_nil, ky_int, bm_dp1, bm_dp2, mt_dp1, mt_dp2, srt_loc, cop_deq, cop_dne, Option.map_some, O.dk.injEq, O.dt.injEq, D.key.injEq, Nat.reduceBEq, pw_0, pw_1, pw_2, pw_3, pw_4, forall_eq', forall_eq, set_len, set_set, lst_sapp0, lst_sappk, sapp_len, bm_ins, bm_popA, bm_ext, mt_ins, mt_popA, mt_ext, cop_isb, cop_isnb, cop_in, cop_nin, stay_q, eq_i2, List.drop_succ_cons, List.drop_zero, sl_rol, sl_loc, sl_tup1, cut_hi, cut_lo, cut_two, ← List.map_take, ← List.map_drop,  man_0, man_1, man_2, man_3, man_4, mans_0, mans_1, mans_2, mans_3, mans_4, ex_one, ex_yes, ex_no, D.exc.injEq, Nat.add_assoc, pick_ttt, pick_ttf, pick_tf, pick_f, and_false, false_and, ixn_0, ixn_1, ixn_2, ixn_3, ixn_4, eq_q2, eq_q5, rng_0, rng_1, rng_2, rng_3, rng_4, rng_5, at_0, at_1, at_2, at_3, at_4, bools_nil, bools_cons, all_loc, Option.map_some, List.all_cons, List.all_nil, id_eq, and_self, Rat.one_mul, Rat.mul_one, Rat.zero_mul, Rat.mul_zero, Rat.add_zero, Rat.zero_add, wipeE, Tg.slots, denB, denS, den, denA, denT, denTA, denI, argsD, andsD, orsD, andsT, orsT, chainD, partD, setAll, bin_ii, bin_ss, bin_tt, bin_ll, int_add, int_sub, int_mul, int_fdiv, int_mod, int_pow, cop_lt, cop_le, cop_gt, cop_ge, cop_eq, cop_ne, cop_is, cop_isn, non_non, non_bl, non_int, non_str, non_tup, non_loc, non_q, tru_non, tru_bl, tru_int, tru_tup, tru_rol, tru_loc, len_tup, len_rol, len_loc, len_str, abs_int, min_int, max_int, tuple_tup, tuple_rol, tuple_loc, list_tup, list_rol, list_loc, int_int, int_bl, dm_int, bm_app, bm_clr, bm_upp, mt_app, mt_clr, mt_upp, it_tup, it_rol, it_loc, it_q, stay_tup, stay_rol, stay_locE, tg_nm, tg_tp, rest_as, ty_non, ty_bl, ty_int, ty_str, ty_tup, ty_rol, ty_loc, isa_one, isa_yes, isa_no, isaB_all, fmod_lit, fdiv_lit,  ends_nx, ends_rt, ends_ex, den_zero, Rat.num_divInt_den, rest_as, startE, List.map_cons, List.map_nil, List.length_cons, List.length_nil, Nat.reduceAdd, Nat.reduceSub, List.replicate_succ, List.replicate_zero, List.cons_append, List.nil_append, List.append_nil, List.getElem?_cons_zero, List.getElem?_cons_succ, List.set_cons_zero, List.set_cons_succ, Option.some.injEq, D.int.injEq, D.bl.injEq, D.str.injEq, D.rol.injEq, D.tup.injEq, D.loc.injEq, List.cons.injEq, exists_eq, exists_eq', exists_eq_left, exists_eq_left', exists_eq_right, exists_eq_right', exists_and_left, and_assoc, true_and, and_true, O.ins.injEq, List.lookup_nil, ty_ins, gb_all, br_true, br_false, br_dec, br_ndec, br_beq, br_bne, br_not, br_same, ix_q0, ix_q1, eq_ii, ix_tup, ix_rol, ix_loc, ints_inj, div_ok, mul_okR, mul_okL, pow_ok, lst_at0, lst_at, get_at0, get_at, set_at0, set_at, lst_hit, lst_skip, set_hit, set_skip, List.append_assoc, List.length_append, List.length_map, Int.reduceEq, Int.reduceNe, Int.reduceLT, Int.reduceLE, Int.reduceToNat, Int.reduceAdd, Int.reduceSub, Int.reduceMul, Int.reduceMod, Int.reduceDiv, Int.reduceAbs, Int.cast_ofNat_Int, Int.natAbs_neg, Int.reducePow, Int.reduceNeg, Nat.reduceLT, Nat.reduceLeDiff, Nat.reduceEqDiff, not_true_eq_false, not_false_eq_true, decide_true, decide_false, Classical.not_not, eq_self, reduceCtorEq, Bool.not_true, Bool.not_false, false_implies, implies_true, true_implies, qD_inj, len_q, ty_q, eq_qb, plus_as, minus_as, times_as, lt_asP, num_lt0, den_lt, le_as, eq_bb, lt_self, beq_self_eq_true, Bool.and_true, Bool.true_and, q_neg, q_zero, q_one, q_13, q_m25, ne_eq, not_false_eq_true, g_dfl, g_L_cell_at, g_L_cells, g_L_within, g_L_due, g_lies_in, g_moved, es_0_0, isn_int, c16, cGcd, cPlus, cMinus, cTimes, cLess, cLaid, cBehind, c_L_cell_at, c_L_cells, c_L_within, c_L_due, c_lies_in, c_moved, hw0, hw1, hw2, hw4, hw5, hw6])
set_option hygiene false in
local macro_rules | `(tactic| walk_at "wds") => `(tactic| (show denB _ (Bl.cons _ _) _ _ _; rw [denB_step]; walk_at "wd"))
theorem d_L_cell_at : ∀ ds S Q Y, G.ctr f_L_cell_at ds S Q Y → ds.length = 2 ∧ denB G b_L_cell_at (startE 2 ds) S (endsOf S Q Y) := by
  rintro ds S Q Y ⟨ns, k, rfl, hk, q⟩
  refine ⟨rfl, ?_⟩
  unfold b_L_cell_at
  walk_at "wp"
  constructor
  · intro h
    refine ⟨.int (ns.getD k.toNat 0), ?_, .inl q⟩
    have hk2 : k.toNat < ns.length := by omega
    rw [atI_of _ hk (by rw [List.length_map]; exact h)]
    rw [List.getElem?_map, List.getD_eq_getElem?_getD, List.getElem?_eq_getElem hk2]
    rfl
  · intro h
    rw [List.getD_eq_getElem?_getD, List.getElem?_eq_none (by omega)] at q
    exact .inl q
theorem d_L_cells : ∀ ds S Q Y, G.ctr f_L_cells ds S Q Y → ds.length = 3 ∧ denB G b_L_cells (startE 5 ds) S (endsOf S Q Y) := by
  rintro ds S Q Y ⟨ns, W, H, rfl, h1, h2, h3, h4, h5, q⟩
  refine ⟨rfl, ?_⟩
  unfold b_L_cells
  walk_at "ws"
  walk_at "ws"
  have hlen : (List.take 40 (List.drop 4 ns)).length ≤ 63 := by
    rw [List.length_take, List.length_drop]
    omega
  generalize List.take 40 (List.drop 4 ns) = xs at hlen
  refine for_at (fun k ρ S' => ∃ acc o, S' = S ++ [.dt acc, .lst (xs.map .int)] ∧ ρ = [some (.rol (ns.map .int)), some (.int W), some (.int H), some (.loc S.length), o] ∧ keysN acc ∧ acc.length ≤ k ∧ gridT acc W H ∧ intsT acc) ?_ ?_ ?_ _ _ ⟨[], _, rfl, rfl, keysN_nil, Nat.le_refl _, (fun p hp => by cases hp), (fun p hp => by cases hp)⟩
  · rintro k ρ S' ⟨acc, o, rfl, rfl, _⟩
    exact lst_at.trans rfl
  · rintro ρ S' ⟨acc, o, rfl, rfl, a1, a2, a3, a4⟩
    rw [List.length_map] at a2
    walk_at "ws"
    have r := q acc a1 a3 a4 (by omega)
    rw [show S ++ [O.dt acc, O.lst (xs.map .int)] = S ++ ([O.dt acc] ++ [O.lst (xs.map .int)]) from rfl]
    refine fin_cut (T := [O.dt acc]) (fun o ho => ?_) (by show S.length < S.length + 1; omega) r
    rw [List.mem_singleton] at ho
    subst ho
    intro p hp
    obtain ⟨i, e⟩ := a4 p hp
    rw [e]
    trivial
  · rintro k ρ S' hk ⟨acc, o, rfl, rfl, a1, a2, a3, a4⟩ K hK
    rw [List.length_map] at hk
    rw [List.getElem_map]
    have hl : Sz 30 W := Sz.of_lt (by omega) (by omega)
    have hl2 : Sz 30 H := Sz.of_lt (by omega) (by omega)
    walk_at "wc"
    have m1 := Int.emod_nonneg xs[k] (show W ≠ 0 by omega)
    have m2 := Int.emod_lt_of_pos xs[k] (show 0 < W by omega)
    have m3 := Int.emod_nonneg (xs[k] / 12) (show H ≠ 0 by omega)
    have m4 := Int.emod_lt_of_pos (xs[k] / 12) (show 0 < H by omega)
    rw [Int.fmod_eq_emod_of_nonneg _ (show 0 ≤ W by omega), Int.fmod_eq_emod_of_nonneg _ (show 0 ≤ H by omega)]
    refine ⟨by omega, by omega, by omega, hK _ _ ⟨putD acc (ck (xs[k] % W) (xs[k] / 12 % H)) (.int (xs[k] / 144 % 1000000)), _, ?_, rfl, keysN_put a1 _ _, ?_, ?_, ?_⟩⟩
    · rw [List.set_append_right _ _ (Nat.le_refl _), Nat.sub_self]
      rfl
    · have := putD_len acc (ck (xs[k] % W) (xs[k] / 12 % H)) (.int (xs[k] / 144 % 1000000))
      omega
    · exact keys_put (P := fun k => ∃ a b : Int, k = ck a b ∧ inR 0 0 W H a b) a3 ⟨_, _, rfl, by unfold inR; omega⟩
    · exact ints_put a4
theorem d_L_within : ∀ ds S Q Y, G.ctr f_L_within ds S Q Y → ds.length = 2 ∧ denB G b_L_within (startE 6 ds) S (endsOf S Q Y) := by
  rintro ds S Q Y ⟨d, a, b, x, y, w, h, rfl, h1, q⟩
  refine ⟨rfl, ?_⟩
  unfold b_L_within
  have hw0 : (∀ S Q, ixD d (.int 0) S Q ↔ Q (.int a) S) ∧ (∀ S Q, ixD d (.int 1) S Q ↔ Q (.int b) S) := ⟨ixP0 h1, ixP1 h1⟩
  have hw1 := hw0
  have hw2 := hw0
  have hw4 := hw0
  have hw5 := hw0
  have hw6 := hw0
  walk_at "wds"
  walk_at "wds"
  have no : ¬ inR x y w h a b → Fin' S Q (.bl false) S := fun z => fin_now (by rw [decide_eq_false z] at q; exact q)
  refine ⟨fun g1 => ⟨fun g2 => ⟨fun g3 => ?_, fun g3 => no fun z => g3 z.2.2.1⟩, fun g2 => no fun z => g2 z.2.1⟩, fun g1 => no fun z => g1 z.1⟩
  refine fin_now ?_
  have e : decide (b < y + h) = decide (inR x y w h a b) := decide_eq_decide.mpr ⟨fun z => ⟨g1, g2, g3, z⟩, fun z => z.2.2.2⟩
  rw [e]
  exact q
theorem d_L_due : ∀ ds S Q Y, G.ctr f_L_due ds S Q Y → ds.length = 5 ∧ denB G b_L_due (startE 10 ds) S (endsOf S Q Y) := by
  rintro ds S Q Y ⟨c, kvs, W, H, x, y, w, h, dx, dy, rfl, h1, h2, h3, h4, h5, h6, q⟩
  refine ⟨rfl, ?_⟩
  unfold b_L_due
  walk_at "ws"
  walk_at "ws"
  refine ⟨by omega, by omega, ?_⟩
  have hc := get_lt h1
  have hw0 : ∀ T, (S ++ T)[c]? = some (.dt kvs) := fun T => get_old h1
  refine for_rng (fun i ρ S' => ∃ acc o1 o2 o3 o4, S' = S ++ [.dt acc] ∧ ρ = [some (.loc c), some (.tup [.int W, .int H]), some (.tup [.int x, .int y, .int w, .int h]), some (.int dx), some (.int dy), some (.loc S.length), o1, o2, o3, o4] ∧ keysN acc ∧ acc.length ≤ i * 12 ∧ gridT acc W H ∧ intsT acc ∧ ∀ a b, valD acc (ck a b) = if a < (i : Nat) then movedV kvs W H x y w h dx dy a b else none) ?_ ?_ ?_ _ _ ⟨[], _, _, _, _, rfl, rfl, keysN_nil, by decide, (fun p hp => by cases hp), (fun p hp => by cases hp), fun a b => ?_⟩
  · exact fun _ _ _ _ => trivial
  · rintro ρ S' ⟨acc, o1, o2, o3, o4, rfl, rfl, a1, a2, a3, a4, a5⟩
    walk_at "ws"
    refine fin_now (q acc a1 a3 a4 (by omega) fun a b => ?_)
    rw [a5]
    by_cases g : a < (W.toNat : Int)
    · rw [if_pos g]
    · rw [if_neg g]
      unfold movedV
      rw [if_neg (fun z => g (by unfold inR at z; omega))]
  · rintro i ρ S' hi ⟨acc, o1, o2, o3, o4, rfl, rfl, a1, a2, a3, a4, a5⟩ K hK
    walk_at "wc"
    refine ⟨by omega, by omega, ?_⟩
    rw [Int.zero_add]
    refine for_rng (fun j ρ S' => ∃ acc o2 o3 o4, S' = S ++ [.dt acc] ∧ ρ = [some (.loc c), some (.tup [.int W, .int H]), some (.tup [.int x, .int y, .int w, .int h]), some (.int dx), some (.int dy), some (.loc S.length), some (.int (i : Nat)), o2, o3, o4] ∧ keysN acc ∧ acc.length ≤ i * 12 + j ∧ gridT acc W H ∧ intsT acc ∧ ∀ a b, valD acc (ck a b) = if a < (i : Nat) ∨ a = (i : Nat) ∧ b < (j : Nat) then movedV kvs W H x y w h dx dy a b else none) ?_ ?_ ?_ _ _ ⟨acc, _, _, _, rfl, rfl, a1, a2, a3, a4, fun a b => ?_⟩
    · exact fun _ _ _ _ => trivial
    · rintro ρ S' ⟨acc, o2, o3, o4, rfl, rfl, b1, b2, b3, b4, b5⟩
      refine hK _ _ ⟨acc, _, _, _, _, rfl, rfl, b1, by omega, b3, b4, fun a b => ?_⟩
      rw [b5]
      by_cases g : a < (i : Nat)
      · rw [if_pos (.inl g), if_pos (by omega)]
      · by_cases g2 : a = (i : Nat)
        · by_cases g3 : b < (H.toNat : Int)
          · rw [if_pos (.inr ⟨g2, g3⟩), if_pos (by omega)]
          · rw [if_neg (by omega), if_pos (by omega)]
            unfold movedV
            rw [if_neg (fun z => g3 (by unfold inR at z; omega))]
        · rw [if_neg (by omega), if_neg (by omega)]
    · rintro j ρ S' hj ⟨acc, o2, o3, o4, rfl, rfl, b1, b2, b3, b4, b5⟩ K2 hK2
      rw [Int.zero_add]
      have hw1 : (S ++ [O.dt acc])[S.length]? = some (.dt acc) := get_last
      have hw2 := hw1
      have hw4 := hw1
      have hw5 := hw1
      have hw6 := hw1
      walk_at "wd"
      have hin : inR 0 0 W H (i : Nat) (j : Nat) := by unfold inR; omega
      have none_ : ∀ X, movedV kvs W H x y w h dx dy (i : Nat) (j : Nat) = none → K2 [some (.loc c), some (.tup [.int W, .int H]), some (.tup [.int x, .int y, .int w, .int h]), some (.int dx), some (.int dy), some (.loc S.length), some (.int (i : Nat)), some (.int (j : Nat)), some (.key [.inl ((i : Nat) - dx), .inl ((j : Nat) - dy)]), some X] (S ++ [.dt acc]) := fun X hX =>
        hK2 _ _ ⟨acc, _, _, _, rfl, rfl, b1, by omega, b3, b4, fun a b => by
          rw [b5]
          by_cases g : a = (i : Nat) ∧ b = (j : Nat)
          · obtain ⟨rfl, rfl⟩ := g
            rw [hX]
            simp
          · by_cases g2 : a < (i : Nat) ∨ a = (i : Nat) ∧ b < (j : Nat)
            · rw [if_pos g2, if_pos (by omega)]
            · rw [if_neg g2, if_neg (by omega)]⟩
      have some_ : ∀ v, movedV kvs W H x y w h dx dy (i : Nat) (j : Nat) = some (.int v) → K2 [some (.loc c), some (.tup [.int W, .int H]), some (.tup [.int x, .int y, .int w, .int h]), some (.int dx), some (.int dy), some (.loc S.length), some (.int (i : Nat)), some (.int (j : Nat)), some (.key [.inl ((i : Nat) - dx), .inl ((j : Nat) - dy)]), some (.int v)] ((S ++ [O.dt acc]).set S.length (.dt (putD acc [.inl (i : Nat), .inl (j : Nat)] (.int v)))) := fun v hX => by
        have hl := putD_len acc (ck (i : Nat) (j : Nat)) (.int v)
        refine hK2 _ _ ⟨putD acc (ck (i : Nat) (j : Nat)) (.int v), _, _, _, ?_, rfl, keysN_put b1 _ _, by omega, keys_put (P := fun k => ∃ a b : Int, k = ck a b ∧ inR 0 0 W H a b) b3 ⟨_, _, rfl, hin⟩, ints_put b4, fun a b => ?_⟩
        · rw [List.set_append_right _ _ (Nat.le_refl _), Nat.sub_self]
          rfl
        · rw [valD_put, b5]
          by_cases g : a = (i : Nat) ∧ b = (j : Nat)
          · obtain ⟨rfl, rfl⟩ := g
            rw [if_pos rfl, if_pos (by omega), hX]
          · rw [if_neg (fun z => g (ck_inj z))]
            by_cases g2 : a < (i : Nat) ∨ a = (i : Nat) ∧ b < (j : Nat)
            · rw [if_pos g2, if_pos (by omega)]
            · rw [if_neg g2, if_neg (by omega)]
      have fin : ∀ o : Option D, movedV kvs W H x y w h dx dy (i : Nat) (j : Nat) = o → Br (isNon (o.getD .non)) (K2 [some (.loc c), some (.tup [.int W, .int H]), some (.tup [.int x, .int y, .int w, .int h]), some (.int dx), some (.int dy), some (.loc S.length), some (.int (i : Nat)), some (.int (j : Nat)), some (.key [.inl ((i : Nat) - dx), .inl ((j : Nat) - dy)]), some (o.getD .non)] (S ++ [.dt acc]))
          (acc.length < 16777216 ∧ K2 [some (.loc c), some (.tup [.int W, .int H]), some (.tup [.int x, .int y, .int w, .int h]), some (.int dx), some (.int dy), some (.loc S.length), some (.int (i : Nat)), some (.int (j : Nat)), some (.key [.inl ((i : Nat) - dx), .inl ((j : Nat) - dy)]), some (o.getD .non)] ((S ++ [O.dt acc]).set S.length (.dt (putD acc [.inl (i : Nat), .inl (j : Nat)] (o.getD .non))))) := fun o ho => by
        rcases moved_int (W := W) (H := H) (x := x) (y := y) (w := w) (hh := h) (dx := dx) (dy := dy) (a := (i : Nat)) (b := (j : Nat)) h2 with e | ⟨v, e⟩
        · rw [e] at ho
          subst ho
          exact ⟨fun _ => none_ _ e, fun z => by cases z⟩
        · rw [e] at ho
          subst ho
          exact ⟨(fun z => by cases z), fun _ => ⟨by omega, some_ _ e⟩⟩
      have v1 : inR x y w h ((i : Nat) - dx) ((j : Nat) - dy) → inR 0 0 W H ((i : Nat) - dx) ((j : Nat) - dy) → movedV kvs W H x y w h dx dy (i : Nat) (j : Nat) = valD kvs [.inl ((i : Nat) - dx), .inl ((j : Nat) - dy)] := fun g1 g2 => by
        unfold movedV
        rw [if_pos hin, if_pos ⟨g1, g2⟩]
        rfl
      have v2 : ¬ (inR x y w h ((i : Nat) - dx) ((j : Nat) - dy) ∧ inR 0 0 W H ((i : Nat) - dx) ((j : Nat) - dy)) → inR x y w h (i : Nat) (j : Nat) → movedV kvs W H x y w h dx dy (i : Nat) (j : Nat) = none := fun g1 g2 => by
        unfold movedV
        rw [if_pos hin, if_neg g1, if_pos g2]
      have v3 : ¬ (inR x y w h ((i : Nat) - dx) ((j : Nat) - dy) ∧ inR 0 0 W H ((i : Nat) - dx) ((j : Nat) - dy)) → ¬ inR x y w h (i : Nat) (j : Nat) → movedV kvs W H x y w h dx dy (i : Nat) (j : Nat) = valD kvs [.inl (i : Nat), .inl (j : Nat)] := fun g1 g2 => by
        unfold movedV
        rw [if_pos hin, if_neg g1, if_neg g2]
        rfl
      refine ⟨fun g1 => ⟨fun g2 => ⟨fun g3 => fin _ (v1 g2 g3), fun g3 => none_ _ (v2 (fun z => g3 z.2) g1)⟩, fun g2 => none_ _ (v2 (fun z => g2 z.1) g1)⟩, fun g1 => ⟨fun g2 => ⟨fun g3 => fin _ (v1 g2 g3), fun g3 => fin _ (v3 (fun z => g3 z.2) g1)⟩, fun g2 => fin _ (v3 (fun z => g2 z.1) g1)⟩⟩
    · rw [a5]
      by_cases g : a < (i : Nat)
      · rw [if_pos g, if_pos (.inl g)]
      · rw [if_neg g]
        by_cases g2 : a = (i : Nat) ∧ b < 0
        · rw [if_pos (.inr g2)]
          unfold movedV
          rw [if_neg (fun z => by unfold inR at z; omega)]
        · rw [if_neg]
          rintro (z | z)
          · exact g z
          · exact g2 ⟨z.1, by have := z.2; omega⟩
  · have e : valD ([] : List (List L2.Key × D)) (ck a b) = none := rfl
    rw [e]
    by_cases g : a < 0
    · rw [if_pos (by omega)]
      unfold movedV
      rw [if_neg (fun z => by unfold inR at z; omega)]
    · rw [if_neg (by omega)]
theorem d_lies_in : ∀ ds S Q Y, G.ctr f_lies_in ds S Q Y → ds.length = 3 ∧ denB G b_lies_in (startE 3 ds) S (endsOf S Q Y) := by
  rintro ds S Q Y ⟨d, e, f, a, b, x, y, w, h, rfl, h1, h2, h3, q⟩
  refine ⟨rfl, ?_⟩
  unfold b_lies_in
  have i1 := ixP0 h1
  have i2 := ixP1 h1
  have i3 := ixP0 h2
  have i4 := ixP1 h2
  have i5 := ixP0 h3
  have i6 := ixP1 h3
  have hw0 : (∀ S Q, ixD d (.int 0) S Q ↔ Q (.int a) S) ∧ (∀ S Q, ixD d (.int 1) S Q ↔ Q (.int b) S) := ⟨i1, i2⟩
  have hw1 : (∀ S Q, ixD e (.int 0) S Q ↔ Q (.int x) S) ∧ (∀ S Q, ixD e (.int 1) S Q ↔ Q (.int y) S) := ⟨i3, i4⟩
  have hw2 : (∀ S Q, ixD f (.int 0) S Q ↔ Q (.int w) S) ∧ (∀ S Q, ixD f (.int 1) S Q ↔ Q (.int h) S) := ⟨i5, i6⟩
  have hw4 := i1
  have hw5 := i1
  have hw6 := i1
  walk_at "wd"
  have no : ¬ inR x y w h a b → Fin' S Q (.bl false) S := fun z => fin_now (by rw [decide_eq_false z] at q; exact q)
  refine ⟨fun g1 => ⟨fun g2 => ⟨fun g3 => ?_, fun g3 => no fun z => g3 z.2.2.1⟩, fun g2 => no fun z => g2 z.2.1⟩, fun g1 => no fun z => g1 z.1⟩
  refine fin_now ?_
  have e : decide (b < y + h) = decide (inR x y w h a b) := decide_eq_decide.mpr ⟨fun z => ⟨g1, g2, g3, z⟩, fun z => z.2.2.2⟩
  rw [e]
  exact q
theorem d_moved : ∀ ds S Q Y, G.ctr f_moved ds S Q Y → ds.length = 5 ∧ denB G b_moved (startE 15 ds) S (endsOf S Q Y) := by
  rintro ds S Q Y ⟨c, kvs, W, H, x, y, w, h, dx, dy, z, rfl, hz, h2, h3, h4, h5, q⟩
  refine ⟨rfl, ?_⟩
  have hc := get_lt h2
  unfold b_moved r_moved_1
  walk_at "ws"
  walk_at "ws"
  unfold r_moved_2
  walk_at "ws"
  have sl : (S.set c (.ft kvs)).length = S.length := List.length_set
  have back : ∀ T : Sto, (S.set c (.ft kvs) ++ T).set c (.dt kvs) = S ++ T := fun T => by
    rw [List.set_append_left _ _ (by rw [List.length_set]; exact hc), List.set_set]
    obtain ⟨g1, g2⟩ := List.getElem?_eq_some_iff.mp h2
    rw [← g2, List.set_getElem_self g1]
  have fwd : ∀ T : Sto, (S ++ T).set c (.ft kvs) = S.set c (.ft kvs) ++ T := fun T => List.set_append_left _ _ hc
  have g0 : (S.set c (.ft kvs))[c]? = some (.ft kvs) := List.getElem?_set_self hc
  have hP : ∀ a b, isP z a b ↔ W = a ∧ H = b := fun a b => isP_iff hz
  refine ⟨c, .dt kvs, .ft kvs, rfl, get_old h2, kvs, by rw [fwd]; exact get_old g0, ?_⟩
  rw [fwd, ← sl]
  have hsl := sl
  generalize S.set c (.ft kvs) = S1 at sl g0 fwd back
  have hkv : ∀ k, (hk : k < kvs.length) → ∃ a b v, kvs[k] = (ck a b, v) ∧ inR 0 0 W H a b := fun k hk => by
    obtain ⟨a, b, e, r⟩ := h4 _ (List.getElem_mem hk)
    exact ⟨a, b, kvs[k].2, Prod.ext e rfl, r⟩
  refine for_at (fun k ρ S' => ∃ acc o1 o2 o3 o4 o5, S' = S1 ++ [.dt acc] ∧ ρ = [some (.loc c), some z, some (.tup [.int x, .int y, .int w, .int h]), some (.int dx), some (.int dy), some (.loc S1.length), some (.int x), some (.int y), some (.int w), some (.int h), o1, o2, o3, o4, o5] ∧ keysN acc ∧ acc.length ≤ k ∧ gridT acc W H ∧ (∀ p ∈ acc, ∃ q ∈ kvs, p.2 = q.2) ∧ ∀ a b, valD acc (ck a b) = if keepP W H x y w h dx dy a b then valD (kvs.take k) (ck a b) else none) ?_ ?_ ?_ _ _ ⟨[], _, _, _, _, _, rfl, rfl, keysN_nil, Nat.le_refl _, (fun p hp => by cases hp), (fun p hp => by cases hp), fun a b => by simp [valD]⟩
  · rintro k ρ S' ⟨acc, o1, o2, o3, o4, o5, rfl, rfl, _⟩
    exact get_old g0
  · rintro ρ S' ⟨acc, o1, o2, o3, o4, o5, rfl, rfl, a1, a2, a3, a4, a5⟩
    rw [List.length_map] at a2 a5
    rw [List.take_length] at a5
    refine ⟨get_old g0, ?_⟩
    rw [back]
    unfold r_moved_3
    walk_at "ws"
    refine ⟨c, .dt kvs, .ft kvs, rfl, get_old h2, kvs, by rw [fwd]; exact get_old g0, ?_⟩
    rw [fwd]
    refine for_at (fun k ρ S' => ∃ acc2 o1 o2 o3 o4 o5, S' = S1 ++ [.dt acc2] ∧ ρ = [some (.loc c), some z, some (.tup [.int x, .int y, .int w, .int h]), some (.int dx), some (.int dy), some (.loc S1.length), some (.int x), some (.int y), some (.int w), some (.int h), o1, o2, o3, o4, o5] ∧ keysN acc2 ∧ acc2.length ≤ acc.length + k ∧ gridT acc2 W H ∧ (∀ p ∈ acc2, ∃ q ∈ kvs, p.2 = q.2) ∧ ∀ a b, valD acc2 (ck a b) = if inR x y w h (a - dx) (b - dy) ∧ inR 0 0 W H a b ∧ (valD (kvs.take k) (ck (a - dx) (b - dy))).isSome = true then valD (kvs.take k) (ck (a - dx) (b - dy)) else valD acc (ck a b)) ?_ ?_ ?_ _ _ ⟨acc, _, _, _, _, _, rfl, rfl, a1, Nat.le_refl _, a3, a4, fun a b => by simp [valD]⟩
    · rintro k ρ S' ⟨acc2, o1, o2, o3, o4, o5, rfl, rfl, _⟩
      exact get_old g0
    · rintro ρ S' ⟨acc2, o1, o2, o3, o4, o5, rfl, rfl, b1, b2, b3, b4, b5⟩
      refine ⟨get_old g0, ?_⟩
      rw [back]
      rw [List.length_map] at b5
      rw [List.take_length] at b5
      unfold r_moved_4
      walk_at "ws"
      refine fin_now ?_
      rw [sl]
      refine q acc2 b1 b3 (fun a b => ?_) b4
      rw [b5, a5]
      exact moved_val h4
    · rintro k ρ S' hk ⟨acc2, o1, o2, o3, o4, o5, rfl, rfl, b1, b2, b3, b4, b5⟩ K hK
      rw [List.length_map] at hk
      rw [List.getElem_map]
      obtain ⟨a, b, v, e, r⟩ := hkv k hk
      have hmem := List.getElem_mem hk
      have et : ∀ (a' b' : Int), valD (kvs.take (k + 1)) (ck a' b') = if a' = a ∧ b' = b then some v else valD (kvs.take k) (ck a' b') := fun a' b' => take_val h3 hk e
      rw [e] at hmem ⊢
      have hw0 := hP
      have hw1 := hP
      have hw2 := hP
      have hw4 := hP
      have hw5 : (S1 ++ [O.dt acc2])[S1.length]? = some (.dt acc2) := get_last
      have hw6 := hP
      unfold ck at hmem ⊢
      walk_at "wd"
      have keep : ¬ (inR x y w h a b ∧ inR 0 0 W H (a + dx) (b + dy)) → ∀ a' b' : Int, valD acc2 (ck a' b') = if inR x y w h (a' - dx) (b' - dy) ∧ inR 0 0 W H a' b' ∧ (valD (kvs.take (k + 1)) (ck (a' - dx) (b' - dy))).isSome = true then valD (kvs.take (k + 1)) (ck (a' - dx) (b' - dy)) else valD acc (ck a' b') := fun hn a' b' => by
        rw [b5, et]
        by_cases q1 : a' - dx = a ∧ b' - dy = b
        · have q2 : ¬ (inR x y w h (a' - dx) (b' - dy) ∧ inR 0 0 W H a' b') := fun z => hn (by
            obtain ⟨z1, z2⟩ := z
            rw [q1.1, q1.2] at z1
            rw [show a' = a + dx by omega, show b' = b + dy by omega] at z2
            exact ⟨z1, z2⟩)
          rw [if_neg (fun z => q2 ⟨z.1, z.2.1⟩), if_neg (fun z => q2 ⟨z.1, z.2.1⟩)]
        · rw [if_neg q1]
      refine ⟨fun g1 => ⟨fun g2 => ?_, fun g2 => ?_⟩, fun g1 => ?_⟩
      · refine ⟨by omega, hK _ _ ⟨putD acc2 (ck (a + dx) (b + dy)) v, _, _, _, _, _, ?_, rfl, keysN_put b1 _ _, ?_, ?_, ?_, fun a' b' => ?_⟩⟩
        · rw [List.set_append_right _ _ (Nat.le_refl _), Nat.sub_self]
          rfl
        · have := putD_len acc2 (ck (a + dx) (b + dy)) v
          omega
        · exact keys_put (P := fun k => ∃ a b : Int, k = ck a b ∧ inR 0 0 W H a b) b3 ⟨_, _, rfl, g2⟩
        · exact put_vals b4 ⟨_, hmem, rfl⟩
        · rw [valD_put, et, b5]
          by_cases q1 : a' - dx = a ∧ b' - dy = b
          · have e1 : a' = a + dx := by omega
            have e2 : b' = b + dy := by omega
            subst e1 e2
            rw [if_pos rfl, if_pos q1, if_pos ⟨by rw [q1.1, q1.2]; exact g1, g2, rfl⟩]
          · rw [if_neg (fun z => q1 (by obtain ⟨z1, z2⟩ := ck_inj z; omega)), if_neg q1]
      · exact hK _ _ ⟨acc2, _, _, _, _, _, rfl, rfl, b1, by omega, b3, b4, keep fun z => g2 z.2⟩
      · exact hK _ _ ⟨acc2, _, _, _, _, _, rfl, rfl, b1, by omega, b3, b4, keep fun z => g1 z.1⟩
  · rintro k ρ S' hk ⟨acc, o1, o2, o3, o4, o5, rfl, rfl, b1, b2, b3, b4, b5⟩ K hK
    rw [List.length_map] at hk
    rw [List.getElem_map]
    obtain ⟨a, b, v, e, r⟩ := hkv k hk
    have hmem := List.getElem_mem hk
    have et : ∀ (a' b' : Int), valD (kvs.take (k + 1)) (ck a' b') = if a' = a ∧ b' = b then some v else valD (kvs.take k) (ck a' b') := fun a' b' => take_val h3 hk e
    rw [e] at hmem ⊢
    have hw0 := hP
    have hw1 := hP
    have hw2 := hP
    have hw4 := hP
    have hw5 : (S1 ++ [O.dt acc])[S1.length]? = some (.dt acc) := get_last
    have hw6 := hP
    unfold ck at hmem ⊢
    walk_at "wd"
    have keep : ¬ keepP W H x y w h dx dy a b → ∀ a' b' : Int, valD acc (ck a' b') = if keepP W H x y w h dx dy a' b' then valD (kvs.take (k + 1)) (ck a' b') else none := fun hn a' b' => by
      rw [b5, et]
      by_cases q1 : a' = a ∧ b' = b
      · obtain ⟨rfl, rfl⟩ := q1
        rw [if_neg hn, if_neg hn]
      · rw [if_neg q1]
    have es : (S1 ++ [O.dt acc]).set S1.length (O.dt (putD acc [Sum.inl a, Sum.inl b] v)) = S1 ++ [O.dt (putD acc (ck a b) v)] := by
      rw [List.set_append_right _ _ (Nat.le_refl _), Nat.sub_self]
      rfl
    have hl := putD_len acc (ck a b) v
    have val : keepP W H x y w h dx dy a b → ∀ a' b' : Int, valD (putD acc (ck a b) v) (ck a' b') = if keepP W H x y w h dx dy a' b' then valD (kvs.take (k + 1)) (ck a' b') else none := fun hy a' b' => by
      rw [valD_put, b5, et]
      by_cases q1 : a' = a ∧ b' = b
      · obtain ⟨rfl, rfl⟩ := q1
        rw [if_pos rfl, if_pos hy, if_pos ⟨rfl, rfl⟩]
      · rw [if_neg (fun z => q1 (ck_inj z)), if_neg q1]
    have gr := keys_put (P := fun k => ∃ a b : Int, k = ck a b ∧ inR 0 0 W H a b) (v := v) b3 ⟨a, b, rfl, r⟩
    have vs := put_vals (k := ck a b) b4 ⟨_, hmem, rfl⟩
    refine ⟨fun g1 => ⟨fun g2 => ?_, fun g2 => ⟨fun g3 => ?_, fun g3 => ?_⟩⟩, fun g1 => ⟨fun g3 => ?_, fun g3 => ?_⟩⟩
    · exact hK _ _ ⟨acc, _, _, _, _, _, rfl, rfl, b1, by omega, b3, b4, keep fun z => z.1 ⟨g1, g2⟩⟩
    · exact hK _ _ ⟨acc, _, _, _, _, _, rfl, rfl, b1, by omega, b3, b4, keep fun z => z.2 g3⟩
    · exact ⟨by omega, hK _ _ ⟨putD acc (ck a b) v, _, _, _, _, _, es, rfl, keysN_put b1 _ _, by omega, gr, vs, val ⟨fun z => g2 z.2, g3⟩⟩⟩
    · exact hK _ _ ⟨acc, _, _, _, _, _, rfl, rfl, b1, by omega, b3, b4, keep fun z => z.2 g3⟩
    · exact ⟨by omega, hK _ _ ⟨putD acc (ck a b) v, _, _, _, _, _, es, rfl, keysN_put b1 _ _, by omega, gr, vs, val ⟨fun z => g1 z.1, g3⟩⟩⟩
theorem d_law : ∀ ds S Q Y, G.ctr f_law ds S Q Y → ds.length = 1 ∧ denB G b_law (startE 11 ds) S (endsOf S Q Y) := by
  rintro ds S Q Y ⟨⟨ns, rfl, hl, rfl⟩, q, _⟩
  refine ⟨rfl, ?_⟩
  have ok := q (.bl true) [] rfl
  unfold b_law r_law_1
  walk_at "ws"
  walk_at "ws"
  unfold r_law_2
  walk_at "ws"
  have w1 : 0 < 1 + ns.getD 0 0 % 12 ∧ 1 + ns.getD 0 0 % 12 ≤ 12 := by omega
  have w2 : 0 < 1 + ns.getD 0 0 / 12 % 12 ∧ 1 + ns.getD 0 0 / 12 % 12 ≤ 12 := by omega
  generalize 1 + ns.getD 0 0 % 12 = W at w1
  generalize 1 + ns.getD 0 0 / 12 % 12 = H at w2
  refine ⟨hl, w1.1, w1.2, w2.1, w2.2, fun kvs g1 g2 g3 g4 => ?_⟩
  unfold r_law_3
  walk_at "ws"
  unfold r_law_4
  walk_at "ws"
  unfold r_law_5
  walk_at "ws"
  unfold r_law_6
  walk_at "ws"
  unfold r_law_7
  walk_at "ws"
  generalize ns.getD 1 0 % 20 - 5 = x
  generalize ns.getD 1 0 / 20 % 20 - 5 = y
  generalize 1 + ns.getD 1 0 / 400 % 16 = w
  generalize 1 + ns.getD 1 0 / 6400 % 16 = h
  generalize ns.getD 2 0 % 29 - 14 = dx
  generalize ns.getD 3 0 % 29 - 14 = dy
  refine ⟨fun p hp => grid_K g2 w1.2 w2.2 hp, ?_⟩
  unfold r_law_8
  walk_at "ws"
  refine ⟨g3, w1.1, w1.2, w2.1, w2.2, fun due e1 e2 e3 e4 e5 => ?_⟩
  unfold r_law_9
  walk_at "ws"
  refine for_at (fun k ρ S' => ∃ f1 o1 o2, S' = [.dt kvs, .dt kvs, .dt due] ++ f1 ∧ ρ = [some (.rol (ns.map .int)), some (.int (ns.getD 1 0)), some (.tup [.int W, .int H]), some (.loc 0), some (.tup [.int x, .int y, .int w, .int h]), some (.int dx), some (.int dy), some (.loc 1), some (.loc 2), o1, o2]) ?_ ?_ ?_ _ _ ⟨[], _, _, rfl, rfl⟩
  · exact fun _ _ _ _ => trivial
  · rintro ρ S' ⟨f1, o1, o2, rfl, rfl⟩
    unfold r_law_10
    walk_at "ws"
    exact fin_law ok
  · rintro k ρ S' hk ⟨f1, o1, o2, rfl, rfl⟩ K hK
    walk_at "wc"
    refine ⟨g1, g2, by omega, fun kvs' m1 m2 m3 m4 => ?_⟩
    have gx : (O.dt kvs :: O.dt kvs :: O.dt due :: (f1 ++ [O.dt kvs']))[f1.length + 3]? = some (.dt kvs') := get_last (l := O.dt kvs :: O.dt kvs :: O.dt due :: f1)
    have all_ck : ∀ {a : List (List L2.Key × D)}, gridT a W H → ∀ ks, (∀ a b, ks ≠ ck a b) → valD a ks = none := fun {a} hg ks hk => by
      rw [valD_none]
      intro z
      obtain ⟨p, hp, e⟩ := List.mem_map.mp z
      obtain ⟨a', b', e2, _⟩ := hg p hp
      exact hk a' b' (e.symm.trans e2)
    have leaf : ∀ {a : List (List L2.Key × D)} {S : Sto}, intsT a → ∀ p ∈ a, leafD S p.2 p.2 := fun {a S} hi p hp => by
      obtain ⟨i, e⟩ := hi p hp
      rw [e]
      exact leaf_int
    refine ⟨.dict, ty_dt gx, true, by walk_at "wc", ?_⟩
    rw [br_true]
    refine ⟨deq_tt gx rfl m1 e1 (fun ks => ?_) (leaf ?_), deq_tt rfl rfl g1 g1 (fun _ => rfl) (leaf g3), ?_, hK _ _ ⟨f1 ++ [O.dt (putD kvs' [Sum.inl 0, Sum.inl 0] (D.str "more"))], _, _, ?_, rfl⟩⟩
    · by_cases hk2 : ∃ a b, ks = ck a b
      · obtain ⟨a, b, rfl⟩ := hk2
        rw [m3, e5]
      · rw [all_ck m2 ks fun a b z => hk2 ⟨a, b, z⟩, all_ck e2 ks fun a b z => hk2 ⟨a, b, z⟩]
    · intro p hp
      obtain ⟨q', hq, e⟩ := m4 p hp
      obtain ⟨i, hi⟩ := g3 q' hq
      exact ⟨i, e.trans hi⟩
    · have := grid_len m1 m2 w1.2 w2.2
      omega
    · rw [List.set_append_right _ _ (Nat.le_refl _), Nat.sub_self]
      rfl
def topS (i : Nat) : Stmt := PySem.Challenge.pw_glazehall_k65_stretches_moved.main.body.getD i (.Pass ⟨0, 0, 0, 0⟩)
def inClass (st : Stmt) (j : Nat) : Stmt := match st with
  | .ClassDef (body := b) .. => b.getD j (.Pass ⟨0, 0, 0, 0⟩)
  | _ => st
def mlvs : List Nat := []
def lvs : List Nat := [3, 1, 1, 1, 2, 1, 2]
def nm : Nm where
  fn := some "law" :: some "_law_cell_at" :: some "_law_cells" :: some "_law_within" :: some "_law_due" :: some "lies_in" :: some "moved" :: []
  lv := fun f => lvs.getD f 0
  mlv := fun m => mlvs.getD m 0
  flds := []
  cls := []
  glb := []
  exn := []
  attr := G.attr
  dok := fun f dn => dn == 0 || [].contains f
  blt := fun b => [Blt.dcopy, Blt.len].contains b
  ve := false
  bare := fun C => [].getD C false
  isx := fun f => [].contains f
abbrev s_law : Stmt := topS 8
theorem sc_law : FnScope ["_law_script", "_law_cell", "_law_size", "_law_cells_here", "_law_stretch", "_law_across", "_law_down", "_law_handed", "_law_due_here", "_law_turn", "_law_found"] ["_law_script"] (defScope s_law) := ⟨rfl, rfl, rfl, by decide +kernel, rfl, by decide +kernel, by decide +kernel⟩
theorem ck_law : chkB nm G.init b_law ⟨["_law_script", "_law_cell", "_law_size", "_law_cells_here", "_law_stretch", "_law_across", "_law_down", "_law_handed", "_law_due_here", "_law_turn", "_law_found"], defScope s_law, fun _ => true, 2, true, []⟩ (defBody s_law) = true := by decide +kernel
abbrev s_L_cell_at : Stmt := topS 4
theorem sc_L_cell_at : FnScope ["_law_script", "_law_k"] ["_law_script", "_law_k"] (defScope s_L_cell_at) := ⟨rfl, rfl, rfl, by decide +kernel, rfl, by decide +kernel, by decide +kernel⟩
theorem ck_L_cell_at : chkB nm G.init b_L_cell_at ⟨["_law_script", "_law_k"], defScope s_L_cell_at, fun _ => true, 0, true, []⟩ (defBody s_L_cell_at) = true := by decide +kernel
abbrev s_L_cells : Stmt := topS 5
theorem sc_L_cells : FnScope ["_law_script", "_law_wide", "_law_high", "_law_found", "_law_cell"] ["_law_script", "_law_wide", "_law_high"] (defScope s_L_cells) := ⟨rfl, rfl, rfl, by decide +kernel, rfl, by decide +kernel, by decide +kernel⟩
theorem ck_L_cells : chkB nm G.init b_L_cells ⟨["_law_script", "_law_wide", "_law_high", "_law_found", "_law_cell"], defScope s_L_cells, fun _ => true, 0, true, []⟩ (defBody s_L_cells) = true := by decide +kernel
abbrev s_L_within : Stmt := topS 6
theorem sc_L_within : FnScope ["_law_cell", "_law_stretch", "_law_x", "_law_y", "_law_wide", "_law_high"] ["_law_cell", "_law_stretch"] (defScope s_L_within) := ⟨rfl, rfl, rfl, by decide +kernel, rfl, by decide +kernel, by decide +kernel⟩
theorem ck_L_within : chkB nm G.init b_L_within ⟨["_law_cell", "_law_stretch", "_law_x", "_law_y", "_law_wide", "_law_high"], defScope s_L_within, fun _ => true, 0, true, []⟩ (defBody s_L_within) = true := by decide +kernel
abbrev s_L_due : Stmt := topS 7
theorem sc_L_due : FnScope ["_law_cells_here", "_law_size", "_law_stretch", "_law_across", "_law_down", "_law_found", "_law_x", "_law_y", "_law_back", "_law_thing"] ["_law_cells_here", "_law_size", "_law_stretch", "_law_across", "_law_down"] (defScope s_L_due) := ⟨rfl, rfl, rfl, by decide +kernel, rfl, by decide +kernel, by decide +kernel⟩
theorem ck_L_due : chkB nm G.init b_L_due ⟨["_law_cells_here", "_law_size", "_law_stretch", "_law_across", "_law_down", "_law_found", "_law_x", "_law_y", "_law_back", "_law_thing"], defScope s_L_due, fun _ => true, 1, true, []⟩ (defBody s_L_due) = true := by decide +kernel
abbrev s_lies_in : Stmt := topS 1
theorem sc_lies_in : FnScope ["cell", "place", "size"] ["cell", "place", "size"] (defScope s_lies_in) := ⟨rfl, rfl, rfl, by decide +kernel, rfl, by decide +kernel, by decide +kernel⟩
theorem ck_lies_in : chkB nm G.init b_lies_in ⟨["cell", "place", "size"], defScope s_lies_in, fun _ => true, 0, true, []⟩ (defBody s_lies_in) = true := by decide +kernel
abbrev s_moved : Stmt := topS 2
theorem sc_moved : FnScope ["cells", "size", "stretch", "across", "down", "found", "x", "y", "wide", "high", "cell", "thing", "back", "covered", "aim"] ["cells", "size", "stretch", "across", "down"] (defScope s_moved) := ⟨rfl, rfl, rfl, by decide +kernel, rfl, by decide +kernel, by decide +kernel⟩
theorem ck_moved : chkB nm G.init b_moved ⟨["cells", "size", "stretch", "across", "down", "found", "x", "y", "wide", "high", "cell", "thing", "back", "covered", "aim"], defScope s_moved, fun _ => true, 1, true, []⟩ (defBody s_moved) = true := by decide +kernel
theorem all_mk {l : PySem.W.OpenLaw} {w : World} {K : PySem.W.Frag} {h : Heap} {mg : Str → Option Value} {fa f0 f1 f2 f3 f4 f5 f6   : Addr} (X : K.In h) (GG : h.Ns mainGlobals mg) (hfa : mg "law" = some (.ref fa))
    {od0 an0 od1 an1 od2 an2 od3 an3 od4 an4 od5 an5 od6 an6 : Option Addr} {sl0 sl1 sl2 sl3 sl4 sl5 sl6 : Array (Option Value)} {oc0 kV0 dc0 pm0 cd0 ct0 oc1 kV1 dc1 pm1 cd1 ct1 oc2 kV2 dc2 pm2 cd2 ct2 oc3 kV3 dc3 pm3 cd3 ct3 oc4 kV4 dc4 pm4 cd4 ct4 oc5 kV5 dc5 pm5 cd5 ct5 oc6 kV6 dc6 pm6 cd6 ct6 : Value}
    (a0 : PySem.W.nsIn K mainGlobals "law" = some (some (.ref f0)))
    (l0 : K.lookup f0 = some ⟨oc0, od0, .func (PySem.W.fnOf "law" "law" (defArgs s_law) (defBody s_law) (defScope s_law) .none kV0 dc0 pm0 an0 cd0 ct0), sl0⟩)
    (c0 : PySem.W.codeIn K cd0 "law" = true)
    (k0 : PySem.W.keepIn K (.ref f0) = true)
    (a1 : PySem.W.nsIn K mainGlobals "_law_cell_at" = some (some (.ref f1)))
    (l1 : K.lookup f1 = some ⟨oc1, od1, .func (PySem.W.fnOf "_law_cell_at" "_law_cell_at" (defArgs s_L_cell_at) (defBody s_L_cell_at) (defScope s_L_cell_at) .none kV1 dc1 pm1 an1 cd1 ct1), sl1⟩)
    (c1 : PySem.W.codeIn K cd1 "_law_cell_at" = true)
    (k1 : PySem.W.keepIn K (.ref f1) = true)
    (a2 : PySem.W.nsIn K mainGlobals "_law_cells" = some (some (.ref f2)))
    (l2 : K.lookup f2 = some ⟨oc2, od2, .func (PySem.W.fnOf "_law_cells" "_law_cells" (defArgs s_L_cells) (defBody s_L_cells) (defScope s_L_cells) .none kV2 dc2 pm2 an2 cd2 ct2), sl2⟩)
    (c2 : PySem.W.codeIn K cd2 "_law_cells" = true)
    (k2 : PySem.W.keepIn K (.ref f2) = true)
    (a3 : PySem.W.nsIn K mainGlobals "_law_within" = some (some (.ref f3)))
    (l3 : K.lookup f3 = some ⟨oc3, od3, .func (PySem.W.fnOf "_law_within" "_law_within" (defArgs s_L_within) (defBody s_L_within) (defScope s_L_within) .none kV3 dc3 pm3 an3 cd3 ct3), sl3⟩)
    (c3 : PySem.W.codeIn K cd3 "_law_within" = true)
    (k3 : PySem.W.keepIn K (.ref f3) = true)
    (a4 : PySem.W.nsIn K mainGlobals "_law_due" = some (some (.ref f4)))
    (l4 : K.lookup f4 = some ⟨oc4, od4, .func (PySem.W.fnOf "_law_due" "_law_due" (defArgs s_L_due) (defBody s_L_due) (defScope s_L_due) .none kV4 dc4 pm4 an4 cd4 ct4), sl4⟩)
    (c4 : PySem.W.codeIn K cd4 "_law_due" = true)
    (k4 : PySem.W.keepIn K (.ref f4) = true)
    (a5 : PySem.W.nsIn K mainGlobals "lies_in" = some (some (.ref f5)))
    (l5 : K.lookup f5 = some ⟨oc5, od5, .func (PySem.W.fnOf "lies_in" "lies_in" (defArgs s_lies_in) (defBody s_lies_in) (defScope s_lies_in) .none kV5 dc5 pm5 an5 cd5 ct5), sl5⟩)
    (c5 : PySem.W.codeIn K cd5 "lies_in" = true)
    (k5 : PySem.W.keepIn K (.ref f5) = true)
    (a6 : PySem.W.nsIn K mainGlobals "moved" = some (some (.ref f6)))
    (l6 : K.lookup f6 = some ⟨oc6, od6, .func (PySem.W.fnOf "moved" "moved" (defArgs s_moved) (defBody s_moved) (defScope s_moved) .none kV6 dc6 pm6 an6 cd6 ct6), sl6⟩)
    (c6 : PySem.W.codeIn K cd6 "moved" = true)
    (k6 : PySem.W.keepIn K (.ref f6) = true)
    (z_range : PySem.W.nsIn K mainGlobals "range" = some none)
    (z_enumerate : PySem.W.nsIn K mainGlobals "enumerate" = some none)
    (z_isinstance : PySem.W.nsIn K mainGlobals "isinstance" = some none)
    (z_int : PySem.W.nsIn K mainGlobals "int" = some none)
    (z_bool : PySem.W.nsIn K mainGlobals "bool" = some none)
    (z_str : PySem.W.nsIn K mainGlobals "str" = some none)
    (z_tuple : PySem.W.nsIn K mainGlobals "tuple" = some none)
    (z_list : PySem.W.nsIn K mainGlobals "list" = some none)
    (z_dict : PySem.W.nsIn K mainGlobals "dict" = some none)
    (z_len : PySem.W.nsIn K mainGlobals "len" = some none) :
    ∃ ad : Ad, ∃ fd : FuncData, (∀ (s : Shared) (v : Value), BindsTo s fd ⟨[v], []⟩ [("_law_script", v)]) ∧ ∀ base : Heap, K.In base → base.Ns mainGlobals mg → FnOk l.prog w K mg base (L2.CX l.prog w) 3 fa fd ["_law_script"] (spOf nm ad K lawSpec.ctr) := by
  have e := (PySem.W.mg_of X GG a0).symm.trans hfa
  have e1 : f0 = fa := by cases e; rfl
  subst e1
  let ad : Ad := ⟨fun f => [f0, f1, f2, f3, f4, f5, f6].getD f 0, fun C => [].getD C 0, fun e => [].getD e 0⟩
  have wn : Wn K mg nm ad G := by
    refine ⟨gMono, by decide +kernel, rfl, ?_, ?_, ?_, PySem.W.mg_none_of X GG z_range, PySem.W.mg_none_of X GG z_enumerate, PySem.W.mg_none_of X GG z_isinstance, ⟨PySem.W.mg_none_of X GG z_int, PySem.W.mg_none_of X GG z_bool, PySem.W.mg_none_of X GG z_str, PySem.W.mg_none_of X GG z_tuple, PySem.W.mg_none_of X GG z_list, PySem.W.mg_none_of X GG z_dict⟩, ?_, ?_, ?_, ?_, ?_, ?_, ?_, ?_, ?_, ?_, ?_, ?_, ?_⟩
    · intro f x hx
      match f, hx with
      | 0, hx => cases hx; exact PySem.W.mg_of X GG a0
      | 1, hx => cases hx; exact PySem.W.mg_of X GG a1
      | 2, hx => cases hx; exact PySem.W.mg_of X GG a2
      | 3, hx => cases hx; exact PySem.W.mg_of X GG a3
      | 4, hx => cases hx; exact PySem.W.mg_of X GG a4
      | 5, hx => cases hx; exact PySem.W.mg_of X GG a5
      | 6, hx => cases hx; exact PySem.W.mg_of X GG a6
      | _ + 7, hx => simp [nm] at hx
    · intro C x hx
      simp [nm] at hx
    · intro b hb
      cases b
      · exact PySem.W.mg_none_of X GG z_len
      · exact absurd hb (by decide)
      · exact absurd hb (by decide)
      · exact absurd hb (by decide)
      · exact absurd hb (by decide)
      · exact absurd hb (by decide)
      · exact absurd hb (by decide)
      · exact absurd hb (by decide)
      · exact absurd hb (by decide)
      · exact absurd hb (by decide)
      · exact absurd hb (by decide)
      · exact PySem.W.mg_none_of X GG z_dict
    · intro g x hx
      simp [nm] at hx
    · exact fun C f x h => by cases h
    · exact fun C m f x h => by cases h
    · exact fun C m f x h => by cases h
    · intro C x hx; simp [nm] at hx
    · have key : ∀ p ∈ isaL, PySem.W.kitOne K (tyVal ad p.1) (clVal ad p.2.1) = some p.2.2 := by
        simp only [isaL, List.forall_mem_cons]
        exact nofun
      intro t c b h
      rcases isaG_or (show isaG isaL t c = some b from h) with h | h
      · exact isaB_ok t c b h
      · exact key _ h
    · have key : ∀ p ∈ isaL, ∀ C, p.1 = .own C → PySem.W.findIn K (.ref (ad.cls C)) "__class__" = some (some (.builtin "object.__class__")) ∧ PySem.W.specialIn K (.builtin "object.__class__") "__get__" = some (some (.builtin "getset_descriptor.__get__")) ∧ PySem.W.takesIn K (.builtin "object.__class__") = some true ∧ PySem.W.mroIn K (ad.cls C) (.type "object") = some true ∧ Cls K (ad.cls C) := by
        simp only [isaL, List.forall_mem_cons]
        exact nofun
      intro C c b h
      rcases isaG_or (show isaG isaL (.own C) c = some b from h) with h | h
      · cases c <;> cases h
      · exact key _ h C rfl
    · intro C x hx; simp [nm] at hx
    · intro k x hx
      match k, hx with
      | _ + 0, hx => simp [nm] at hx
    · exact fun h => by cases h
    · intro k c b h
      exact nomatch (show (none : Option Bool) = some b from h)
    · intro k c b h
      exact nomatch (show (none : Option Bool) = some b from h)
    · intro k c b h
      exact nomatch (show (none : Option Bool) = some b from h)
  have wx : Wx K mg nm ad := by
    refine ⟨fun k x hx => ?_⟩
    match k, hx with
    | _ + 0, hx => simp [nm] at hx
  have F0 := fun_toD (fun_mk (st := s_law) l0 c0 k0)
  have B0 := bi_of (nm := nm) (Γ := G) (f := 0) ((fun_mk (st := s_law) l0 c0 k0).binds (ps := ["_law_script"]) fun _ _ _ _ _ _ us hl => match us, hl with | [_], _ => rfl) fun dn => by simp [G, dflT]
  have F1 := fun_toD (fun_mk (st := s_L_cell_at) l1 c1 k1)
  have B1 := bi_of (nm := nm) (Γ := G) (f := 1) ((fun_mk (st := s_L_cell_at) l1 c1 k1).binds (ps := ["_law_script", "_law_k"]) fun _ _ _ _ _ _ us hl => match us, hl with | [_, _], _ => rfl) fun dn => by simp [G, dflT]
  have F2 := fun_toD (fun_mk (st := s_L_cells) l2 c2 k2)
  have B2 := bi_of (nm := nm) (Γ := G) (f := 2) ((fun_mk (st := s_L_cells) l2 c2 k2).binds (ps := ["_law_script", "_law_wide", "_law_high"]) fun _ _ _ _ _ _ us hl => match us, hl with | [_, _, _], _ => rfl) fun dn => by simp [G, dflT]
  have F3 := fun_toD (fun_mk (st := s_L_within) l3 c3 k3)
  have B3 := bi_of (nm := nm) (Γ := G) (f := 3) ((fun_mk (st := s_L_within) l3 c3 k3).binds (ps := ["_law_cell", "_law_stretch"]) fun _ _ _ _ _ _ us hl => match us, hl with | [_, _], _ => rfl) fun dn => by simp [G, dflT]
  have F4 := fun_toD (fun_mk (st := s_L_due) l4 c4 k4)
  have B4 := bi_of (nm := nm) (Γ := G) (f := 4) ((fun_mk (st := s_L_due) l4 c4 k4).binds (ps := ["_law_cells_here", "_law_size", "_law_stretch", "_law_across", "_law_down"]) fun _ _ _ _ _ _ us hl => match us, hl with | [_, _, _, _, _], _ => rfl) fun dn => by simp [G, dflT]
  have F5 := fun_toD (fun_mk (st := s_lies_in) l5 c5 k5)
  have B5 := bi_of (nm := nm) (Γ := G) (f := 5) ((fun_mk (st := s_lies_in) l5 c5 k5).binds (ps := ["cell", "place", "size"]) fun _ _ _ _ _ _ us hl => match us, hl with | [_, _, _], _ => rfl) fun dn => by simp [G, dflT]
  have F6 := fun_toD (fun_mk (st := s_moved) l6 c6 k6)
  have B6 := bi_of (nm := nm) (Γ := G) (f := 6) ((fun_mk (st := s_moved) l6 c6 k6).binds (ps := ["cells", "size", "stretch", "across", "down"]) fun _ _ _ _ _ _ us hl => match us, hl with | [_, _, _, _, _], _ => rfl) fun dn => by simp [G, dflT]
  refine ⟨ad, PySem.W.fnOf "law" "law" (defArgs s_law) (defBody s_law) (defScope s_law) .none kV0 dc0 pm0 an0 cd0 ct0, fun s v => .of_eq rfl, fun base kb gb => ?_⟩
  have wo : ∀ k, Wo l.prog w K mg base nm ad G k := by
    refine wo_all wn (fun k f hk hw => ?_) (fun k f hk hi hw => ?_)
    rotate_left
    · match f, hk, hi, hw with
      | 0, hk, hi, hw => cases hi
      | 1, hk, hi, hw => cases hi
      | 2, hk, hi, hw => cases hi
      | 3, hk, hi, hw => cases hi
      | 4, hk, hi, hw => cases hi
      | 5, hk, hi, hw => cases hi
      | 6, hk, hi, hw => cases hi
      | _ + 7, hk, hi, hw => simp [nm, lvs] at hk
    match f, hk, hw with
    | 0, hk, hw => cases (show k = 2 by have : 3 = k + 1 := hk; omega); exact fnf_of hw wx F0 sc_law rfl ck_law d_law B0
    | 1, hk, hw => cases (show k = 0 by have : 1 = k + 1 := hk; omega); exact fnf_of hw wx F1 sc_L_cell_at rfl ck_L_cell_at d_L_cell_at B1
    | 2, hk, hw => cases (show k = 0 by have : 1 = k + 1 := hk; omega); exact fnf_of hw wx F2 sc_L_cells rfl ck_L_cells d_L_cells B2
    | 3, hk, hw => cases (show k = 0 by have : 1 = k + 1 := hk; omega); exact fnf_of hw wx F3 sc_L_within rfl ck_L_within d_L_within B3
    | 4, hk, hw => cases (show k = 1 by have : 2 = k + 1 := hk; omega); exact fnf_of hw wx F4 sc_L_due rfl ck_L_due d_L_due B4
    | 5, hk, hw => cases (show k = 0 by have : 1 = k + 1 := hk; omega); exact fnf_of hw wx F5 sc_lies_in rfl ck_lies_in d_lies_in B5
    | 6, hk, hw => cases (show k = 1 by have : 2 = k + 1 := hk; omega); exact fnf_of hw wx F6 sc_moved rfl ck_moved d_moved B6
    | _ + 7, hk, hw => simp [nm, lvs] at hk
  exact def_ok (f := 0) (wo 2) wx F0 sc_law ck_law d_law
theorem walk {l : PySem.W.OpenLaw} {q : Program} {loose : List Str} {XP : (Str → Option Value) → Heap → Prop} {YP : World → Heap → Prop} {d : DefRec} {K : Params → PySem.W.Frag} (hn : l.most = some 63) (hdf : d.params.defaults = [])
    (hY : ∀ (w : World) (h : Heap), YP w h → (K w.params).In h)
    (F : ∀ (w : World) (mg : Str → Option Value) (fa : Addr) (h : Heap), (K w.params).In h → h.Ns mainGlobals mg → mg d.name = some (.ref fa) →
      ∃ ad : Ad, ∃ fd : FuncData, (∀ (s : Shared) (u : Value), BindsTo s fd ⟨[u], []⟩ [("_law_script", u)]) ∧ ∀ base : Heap, (K w.params).In base → base.Ns mainGlobals mg → FnOk l.prog w (K w.params) mg base (L2.CX l.prog w) 3 fa fd ["_law_script"] (spOf nm ad (K w.params) lawSpec.ctr)) :
    PySem.W.WalkO q loose XP YP l.row.toRowW d [] (fun f vs => PySem.call f vs) :=
  L2.walk_of (n := 63) (k := 3) (x := "_law_script") (CX := fun w => L2.CX l.prog w) (sp := fun w => fun vs H Q E => ∃ ad, spOf nm ad (K w.params) lawSpec.ctr vs H Q E) hn (by decide) hdf ⟨rfl, by decide, by decide⟩ hY
    (fun w mg fa h kh gh hd => let ⟨ad, fd, b, f⟩ := F w mg fa h kh gh hd; ⟨fd, b, fun base kb gb => (f base kb gb).imp fun vs H Q E ⟨_, q⟩ => sp_any q⟩)
    (fun w H a ns hl hO hS => ⟨⟨fun _ => 0, fun _ => 0, fun _ => 0⟩, law_sp hl hO hS⟩) fun w H s e s' z => cx_false z
end Wp
open PySem PySem.W PyProof.Rows in
set_option maxRecDepth 100000 in
set_option maxHeartbeats 0 in
theorem PySem.Challenge.cw_glazehall_k65_stretches_moved_holds : PySem.Challenge.rw_glazehall_k65_stretches_moved.Holds := by
  w_on; o_law; k_head; (case hw => w_witness2)
  k_fill
  refine Wp.walk (l := PySem.Challenge.rw_glazehall_k65_stretches_moved) rfl rfl (fun w h Y => PySem.W.kIn_of Y) ?F
  case F =>
    intro w mg fa h KX GG hmg
    refine' Wp.all_mk KX GG hmg ?a0 ?l0 ?c0 ?k0 ?a1 ?l1 ?c1 ?k1 ?a2 ?l2 ?c2 ?k2 ?a3 ?l3 ?c3 ?k3 ?a4 ?l4 ?c4 ?k4 ?a5 ?l5 ?c5 ?k5 ?a6 ?l6 ?c6 ?k6 ?z_range ?z_enumerate ?z_isinstance ?z_int ?z_bool ?z_str ?z_tuple ?z_list ?z_dict ?z_len
    (case a0 => k_is)
    (case l0 => k_is)
    (case c0 => k_is)
    (case k0 => k_is)
    (case a1 => k_is)
    (case l1 => k_is)
    (case c1 => k_is)
    (case k1 => k_is)
    (case a2 => k_is)
    (case l2 => k_is)
    (case c2 => k_is)
    (case k2 => k_is)
    (case a3 => k_is)
    (case l3 => k_is)
    (case c3 => k_is)
    (case k3 => k_is)
    (case a4 => k_is)
    (case l4 => k_is)
    (case c4 => k_is)
    (case k4 => k_is)
    (case a5 => k_is)
    (case l5 => k_is)
    (case c5 => k_is)
    (case k5 => k_is)
    (case a6 => k_is)
    (case l6 => k_is)
    (case c6 => k_is)
    (case k6 => k_is)
    (case z_range => k_is)
    (case z_enumerate => k_is)
    (case z_isinstance => k_is)
    (case z_int => k_is)
    (case z_bool => k_is)
    (case z_str => k_is)
    (case z_tuple => k_is)
    (case z_list => k_is)
    (case z_dict => k_is)
    (case z_len => k_is)
#print axioms PySem.Challenge.cw_glazehall_k65_stretches_moved_holds

