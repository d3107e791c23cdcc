import PyProof.Rows.All
import Wide.All
import OpenK.AllK
import Wide.FinOn
import HandS.ForMost
import HandS.ForExc
import HandS.Wide
import HandS.IsInst
import HandS.Walk
import HandS.Deep
import HandS.Steps
import HandS.SortInts
import HandS.TryOnly
import HandS.More
import HandS.Rev
import HandS.Dict
import HandS.New0
import HandS.Conv
import HandS.TupLe
import KE.KRevIter
import HandS.RevTup
import HandS.SetFor
import HandS.Ends
import HandS.EndBits
import HandS.Defaults
import HandS.Head0
import HandS.Head1
import HandS.Head2
import HandS.HeadEnd
import HandS.HeadHook1
import HandS.HeadHook2
import HandS.HeadHook3
import HandS.HeadHook4
import PySem.Challenge.RW_stylehouse_k29_fair_lines
set_option Elab.async false
section
set_option linter.all false
set_option maxRecDepth 100000
/-! AM, first part: values, store, syntax, weakest preconditions. -/
namespace AM
open PySem L2

inductive Va where
  | non | bl (b : Bool) | int (i : Int) | str (x : Str)
  | tup (xs : List Va) | lst (xs : List Va) | dct (kvs : List (Key × Va)) | loc (n : Nat) | scr (ns : List Int)

inductive Ob where
  | lst (xs : List Va) | dct (kvs : List (Key × Va)) | ins (C : Str) (fs : List (Str × Va)) | dead

abbrev Sto := List Ob
abbrev Env := List (Option Va)
abbrev PV := Va → Sto → Prop
abbrev PX := Str → Sto → Prop
abbrev PL := List Va → Sto → Prop

inductive Bop where | add | sub | mul | fdiv | mod | pow
  deriving DecidableEq
inductive Cop where | eq | ne | lt | le | gt | ge | isin | notin | isb | nisb
  deriving DecidableEq
inductive Ty where | int | bool | str | tuple | list | dict
  deriving DecidableEq
mutual
inductive Tg where | name (i : Nat) | tup (ts : Tgs)
inductive Tgs where | nil | cons (t : Tg) (ts : Tgs)
end
inductive Bf where | list | tuple | sum | max1 | min1 | max2 | min2 | sorted | ord | str | int | all | any | dict
  deriving DecidableEq
inductive Mf where | append | pop | extend | insert | join | index | clear | remove
  deriving DecidableEq

mutual
inductive Ex where
  | var (i : Nat) | int (i : Int) | bl (b : Bool) | non | str (x : Str) | glob (x : Str)
  | tup (es : Exs) | lst (es : Exs)
  | bin (op : Bop) (a b : Ex) | neg (a : Ex)
  | cmp (op : Cop) (a b : Ex) | isN (a : Ex) | notN (a : Ex)
  | chain (op op' : Cop) (a b c : Ex)
  | tst (t : Te)
  | ite (t : Te) (a b : Ex)
  | call (f : Str) (es : Exs)
  | len (a : Ex) | abs (a : Ex) | isi (a : Ex) (t : Ty)
  | sub (a i : Ex)
  | slice (a : Ex) (lo hi : Oe)
  | blt (f : Bf) (es : Exs)
  | mth (m : Mf) (o : Ex) (es : Exs)
  | comp (own : List Nat) (elt : Ex) (tg : Tg) (it : It) (cond : Tes0)
  | fld (o : Ex) (f : Str) | mcall (o : Ex) (m : Str) (es : Exs) | make (c : Str) (es : Exs) | make0 (c : Str)
  | isc (a : Ex) (x : Str) | lrev (a : Ex)
  | dsp (es : Exs) | get1 (o k : Ex) | get2 (o k d : Ex) | gget (x : Str) (k d : Ex) | dpop1 (o k : Ex) | dpop2 (o k d : Ex)
inductive Oe where
  | none | some (e : Ex)
inductive It where
  | seq (e : Ex) | range1 (a : Ex) | range2 (a b : Ex) | enum (e : Ex) | zip (a b : Ex) | rev (e : Ex)
inductive Tes0 where
  | none | some (t : Te)
inductive Te where
  | val (e : Ex) | not (t : Te) | and (ts : Tes) | or (ts : Tes)
inductive Tes where
  | one (t : Te) | cons (t : Te) (ts : Tes)
inductive Exs where
  | nil | cons (e : Ex) (es : Exs)
end

mutual
inductive Sm where
  | set (i : Nat) (e : Ex) | ret (e : Ex) | retN | pass | brk | cont
  | drop (e : Ex)
  | ite (t : Te) (a b : Sms)
  | whil (t : Te) (b : Sms)
  | raise (x : Str)
  | asg (tg : Tg) (e : Ex)
  | setSub (o i e : Ex)
  | aug (i : Nat) (op : Bop) (e : Ex)
  | setC (i : Nat) (own : List Nat) (elt : Ex) (tg : Tg) (it : It) (cond : Tes0)
  | for_ (tg : Tg) (it : It) (b : Sms)
  | setFld (o : Ex) (f : Str) (e : Ex) | augFld (o : Ex) (f : Str) (op : Bop) (e : Ex)
inductive Sms where
  | nil | cons (s : Sm) (ss : Sms)
end

structure Fn where
  ps : List Str
  N : List Str
  body : Sms

def gt : Env → Nat → Option Va
  | [], _ => none
  | o :: _, 0 => o
  | _ :: r, i + 1 => gt r i
theorem gt_eq : ∀ (l : Env) (i : Nat) (v : Va), gt l i = some v ↔ l[i]? = some (some v)
  | [], i, v => by simp [gt]
  | o :: r, 0, v => by simp [gt]
  | o :: r, i + 1, v => by simp [gt, gt_eq r i v]

/-- a list's items: a frozen one, or one of the store -/
def LV (S : Sto) (v : Va) (xs : List Va) : Prop := v = .lst xs ∨ ∃ k, v = .loc k ∧ S[k]? = some (.lst xs)

/-- flat data -/
def flat : Va → Bool
  | .non => true | .bl _ => true | .int _ => true | .str _ => true
  | .tup _ => false | .lst _ => false | .dct _ => false | .loc _ => false | .scr _ => false
def scal : Va → Va → Bool
  | .int _, .int _ => true | .bl _, .bl _ => true | .str _, .str _ => true | .non, .non => true
  | _, _ => false
def eqF : Va → Va → Bool
  | .int i, .int j => decide (i = j) | .bl a, .bl b => decide (a = b) | .str a, .str b => decide (a = b) | .non, .non => true
  | _, _ => false

/-- == of flat things, a truth being a number too -/
def eqW : Va → Va → Bool
  | .non, .non => true
  | .bl a, .bl b => a == b
  | .bl a, .int b => (if a then 1 else 0) == b
  | .int a, .bl b => a == (if b then 1 else 0)
  | .int a, .int b => a == b
  | .str a, .str b => a == b
  | _, _ => false
mutual
/-- data at any depth, read through the store -/
inductive DV (S : Sto) : Va → PyData → Prop
  | non : DV S .non .none
  | bl (b : Bool) : DV S (.bl b) (.bool b)
  | int (i : Int) : DV S (.int i) (.int i)
  | str (x : Str) : DV S (.str x) (.str x)
  | tup {xs : List Va} {ds : List PyData} : DVs S xs ds → DV S (.tup xs) (.tuple ds)
  | lst {xs : List Va} {ds : List PyData} : DVs S xs ds → DV S (.lst xs) (.list ds)
  | loc {k : Nat} {xs : List Va} {ds : List PyData} : S[k]? = some (.lst xs) → DVs S xs ds → DV S (.loc k) (.list ds)
inductive DVs (S : Sto) : List Va → List PyData → Prop
  | nil : DVs S [] []
  | cons {v : Va} {vs : List Va} {d : PyData} {ds : List PyData} : DV S v d → DVs S vs ds → DVs S (v :: vs) (d :: ds)
end

/-! ### dicts, objects -/
def keyV : Va → Option Key
  | .int i => some (.inl i)
  | .str x => some (.inr x)
  | _ => none
def dget (kvs : List (Key × Va)) (k : Key) : Option Va := (kvs.find? fun kv => decide (kv.1 = k)).map (·.2)
def dput (kvs : List (Key × Va)) (k : Key) (v : Va) : List (Key × Va) :=
  if (kvs.any fun kv => decide (kv.1 = k)) = true then kvs.map (fun kv => if kv.1 = k then (kv.1, v) else kv) else kvs ++ [(k, v)]
def ddrop (kvs : List (Key × Va)) (k : Key) : List (Key × Va) := kvs.filter fun kv => decide (kv.1 ≠ k)
def mergeA (kvs more : List (Key × Va)) : List (Key × Va) := more.foldl (fun acc kv => dput acc kv.1 kv.2) kvs
def pairsV : List Va → Option (List (Key × Va))
  | [] => some []
  | k :: v :: r => match keyV k, pairsV r with
    | some k, some r => some ((k, v) :: r)
    | _, _ => none
  | _ => none
def putFA (f : Str) (v : Va) : List (Str × Va) → List (Str × Va)
  | [] => [(f, v)]
  | (g, x) :: r => if g = f then (g, v) :: r else (g, x) :: putFA f v r
/-- a dict's pairs: a frozen one, or one of the store -/
def LD (S : Sto) (v : Va) (kvs : List (Key × Va)) : Prop := v = .dct kvs ∨ ∃ k, v = .loc k ∧ S[k]? = some (.dct kvs)

/-- two dicts alike: as many pairs, and each of the one has its like in the other -/
def DEq (S : Sto) (x y : Va) : Prop := ∃ ks ls, LD S x ks ∧ LD S y ls ∧ ks.length = ls.length ∧ ∀ p ∈ ks, ∃ z, dget ls p.1 = some z ∧ ∃ d, DV S p.2 d ∧ DV S z d ∧ SeqAt.shaped d = true ∧ PyData.eqv d d = true
/-- a product of less than some 134 million bits -/
def CMulA (i j : Int) : Prop := i.natAbs.log2 + j.natAbs.log2 < 134000000
def CDivA (j : Int) : Prop := j ≠ 0 ∧ j.natAbs.log2 < 9000

/-- two lists' items put together in a new list -/
def wCat (x y : Va) (S : Sto) (P : PV) : Prop := ∃ xs, LV S x xs ∧ ∃ ys, LV S y ys ∧ xs.length + ys.length ≤ 1000000 ∧ P (.loc S.length) (S ++ [.lst (xs ++ ys)])
def wBin : Bop → Va → Va → Sto → PV → Prop
  | .add, .int i, .int j, S, P => P (.int (i + j)) S
  | .add, .str i, .str j, S, P => i.length + j.length ≤ sizeLine ∧ P (.str (i ++ j)) S
  | .add, .lst xs, y, S, P => wCat (.lst xs) y S P
  | .add, .loc k, y, S, P => wCat (.loc k) y S P
  | .add, .tup xs, .tup ys, S, P => xs ≠ [] ∧ xs.length + ys.length ≤ 1000000 ∧ P (.tup (xs ++ ys)) S
  | .sub, .int i, .int j, S, P => P (.int (i - j)) S
  | .mul, .int i, .int j, S, P => CMulA i j ∧ P (.int (i * j)) S
  | .mul, .loc k, .int i, S, P => ∃ xs, S[k]? = some (.lst xs) ∧ -(2 ^ 62) ≤ i ∧ i < 2 ^ 62 ∧ xs.length * i.toNat ≤ 1000000 ∧ P (.loc S.length) (S ++ [.lst (List.replicate i.toNat xs).flatten])
  | .fdiv, .int i, .int j, S, P => CDivA j ∧ P (.int (i.fdiv j)) S
  | .mod, .int i, .int j, S, P => j ≠ 0 ∧ P (.int (i.fmod j)) S
  | .pow, .int i, .int j, S, P => CPow i j ∧ P (.int (i ^ j.toNat)) S
  | _, _, _, _, _ => False

def wNeg : Va → Sto → PV → Prop
  | .int i, S, P => P (.int (-i)) S
  | _, _, _ => False

/-- x in the object o that stands at k -/
def inO (S : Sto) (neg : Bool) (x : Va) (k : Nat) : Ob → PV → Prop
  | .lst _, P => ∃ d ds, DV S x d ∧ DV S (.loc k) (.list ds) ∧ SeqAt.shaped d = true ∧ SeqAt.shaped (.list ds) = true ∧ P (.bl (if neg = true then !ds.any fun z => PyData.eqv z d else ds.any fun z => PyData.eqv z d)) S
  | .dct kvs, P => ∃ kk, keyV x = some kk ∧ P (.bl (if neg = true then !(dget kvs kk).isSome else (dget kvs kk).isSome)) S
  | _, _ => False
def wCmp : Cop → Va → Va → Sto → PV → Prop
  | .lt, .int i, .int j, S, P => P (.bl (decide (i < j))) S
  | .le, .int i, .int j, S, P => P (.bl (decide (i ≤ j))) S
  | .gt, .int i, .int j, S, P => P (.bl (decide (j < i))) S
  | .ge, .int i, .int j, S, P => P (.bl (decide (j ≤ i))) S
  | .isb, .bl a, .bl b, S, P => P (.bl (decide (a = b))) S
  | .nisb, .bl a, .bl b, S, P => P (.bl (!decide (a = b))) S
  | .isin, .str x, .str y, S, P => x.length = 1 ∧ P (.bl (decide (x.cps.getD 0 0 ∈ y.cps.toList))) S
  | .notin, .str x, .str y, S, P => x.length = 1 ∧ P (.bl (!decide (x.cps.getD 0 0 ∈ y.cps.toList))) S
  | .isin, x, .tup xs, S, P => flat x = true ∧ xs.all flat = true ∧ P (.bl (xs.any fun z => eqW z x)) S
  | .isin, x, .dct kvs, S, P => ∃ kk, keyV x = some kk ∧ P (.bl (dget kvs kk).isSome) S
  | .notin, x, .dct kvs, S, P => ∃ kk, keyV x = some kk ∧ P (.bl (!(dget kvs kk).isSome)) S
  | .isin, x, .loc k, S, P => ∃ o, S[k]? = some o ∧ inO S false x k o P
  | .notin, x, .loc k, S, P => ∃ o, S[k]? = some o ∧ inO S true x k o P
  | .notin, x, .tup xs, S, P => flat x = true ∧ xs.all flat = true ∧ P (.bl (!xs.any fun z => eqW z x)) S
  | .isin, x, y, S, P => ∃ d ds, DV S x d ∧ DV S y (.list ds) ∧ SeqAt.shaped d = true ∧ SeqAt.shaped (.list ds) = true ∧ P (.bl (ds.any fun z => PyData.eqv z d)) S
  | .notin, x, y, S, P => ∃ d ds, DV S x d ∧ DV S y (.list ds) ∧ SeqAt.shaped d = true ∧ SeqAt.shaped (.list ds) = true ∧ P (.bl (!ds.any fun z => PyData.eqv z d)) S
  | .eq, x, y, S, P => ((scal x y = true ∧ P (.bl (eqF x y)) S) ∨ (DEq S x y ∧ P (.bl true) S)) ∨ ∃ d e, DV S x d ∧ DV S y e ∧ SeqAt.shaped d = true ∧ SeqAt.shaped e = true ∧ P (.bl (PyData.eqv d e)) S
  | .ne, x, y, S, P => ((scal x y = true ∧ P (.bl (!eqF x y)) S) ∨ (DEq S x y ∧ P (.bl false) S)) ∨ ∃ d e, DV S x d ∧ DV S y e ∧ SeqAt.shaped d = true ∧ SeqAt.shaped e = true ∧ P (.bl (!PyData.eqv d e)) S
  | _, _, _, _, _ => False

def isNon : Va → Bool
  | .non => true | _ => false

def lenO : Ob → Sto → PV → Prop
  | .lst xs, S, P => P (.int xs.length) S
  | .dct kvs, S, P => P (.int kvs.length) S
  | _, _, _ => False
def wLen : Va → Sto → PV → Prop
  | .tup xs, S, P => P (.int xs.length) S
  | .lst xs, S, P => P (.int xs.length) S
  | .loc k, S, P => ∃ o, S[k]? = some o ∧ lenO o S P
  | .dct kvs, S, P => P (.int kvs.length) S
  | .str x, S, P => x.length ≤ sizeLine ∧ P (.int x.length) S
  | .scr ns, S, P => P (.int ns.length) S
  | _, _, _ => False

def wAbs : Va → Sto → PV → Prop
  | .int i, S, P => P (.int (if i < 0 then -i else i)) S
  | _, _, _ => False

def tyIs (S : Sto) : Va → Ty → Option Bool
  | .non, _ => some false
  | .bl _, t => some (t == .bool || t == .int)
  | .int _, t => some (t == .int)
  | .str _, t => some (t == .str)
  | .tup _, t => some (t == .tuple)
  | .lst _, t => some (t == .list)
  | .dct _, t => some (t == .dict)
  | .scr _, t => some (t == .list)
  | .loc k, t => match S[k]? with
    | some (.lst _) => some (t == .list)
    | some (.dct _) => some (t == .dict)
    | _ => none

def subO : Ob → Va → Sto → PV → Prop
  | .lst xs, .int i, S, P => ∃ v, L2.atI xs i = some v ∧ P v S
  | .dct kvs, y, S, P => ∃ kk, keyV y = some kk ∧ ∃ v, dget kvs kk = some v ∧ P v S
  | _, _, _, _ => False
/-- o[i], by a place from the front or the back; by a key -/
def wSub : Va → Va → Sto → PV → Prop
  | .tup xs, .int i, S, P => ∃ v, L2.atI xs i = some v ∧ P v S
  | .lst xs, .int i, S, P => ∃ v, L2.atI xs i = some v ∧ P v S
  | .loc k, y, S, P => ∃ o, S[k]? = some o ∧ subO o y S P
  | .dct kvs, y, S, P => ∃ kk, keyV y = some kk ∧ ∃ v, dget kvs kk = some v ∧ P v S
  | .scr ns, .int i, S, P => ∃ n, L2.atI ns i = some n ∧ P (.int n) S
  | .str z, .int i, S, P => ∃ c, z.length ≤ sizeLine ∧ L2.atI z.cps.toList i = some c ∧ P (.str ⟨#[c]⟩) S
  | _, _, _, _ => False

/-- a value's truth -/
def tru (S : Sto) : Va → Option Bool
  | .non => some false
  | .bl b => some b
  | .int i => some (i != 0)
  | .lst xs => some (!xs.isEmpty)
  | .tup xs => some (!xs.isEmpty)
  | .dct kvs => some (!kvs.isEmpty)
  | .loc k => match S[k]? with
    | some (.lst xs) => some (!xs.isEmpty)
    | some (.dct kvs) => some (!kvs.isEmpty)
    | _ => none
  | _ => none

/-- a slice's parts -/
def cutA {α : Type} (xs : List α) (lo hi : Option Int) : List α := (xs.drop (HT.sIx xs.length 0 lo)).take (HT.sIx xs.length xs.length hi - HT.sIx xs.length 0 lo)
def wSlice : Va → Option Int → Option Int → Sto → PV → Prop
  | .lst xs, lo, hi, S, P => P (.loc S.length) (S ++ [.lst (cutA xs lo hi)])
  | .loc k, lo, hi, S, P => ∃ xs, S[k]? = some (.lst xs) ∧ P (.loc S.length) (S ++ [.lst (cutA xs lo hi)])
  | .scr ns, lo, hi, S, P => P (.loc S.length) (S ++ [.lst ((cutA ns lo hi).map Va.int)])
  | .tup xs, lo, hi, S, P => ¬ (HT.sIx xs.length 0 lo = 0 ∧ HT.sIx xs.length xs.length hi = xs.length) ∧ P (.tup (cutA xs lo hi)) S
  | .str z, lo, hi, S, P => z.length ≤ sizeLine ∧ P (.str (L2.cutS z lo hi)) S
  | _, _, _, _, _ => False

def keyA : Key → Va
  | .inl i => .int i
  | .inr x => .str x
def listO : Ob → Sto → PV → Prop
  | .lst xs, S, P => P (.loc S.length) (S ++ [.lst xs])
  | .dct kvs, S, P => P (.loc S.length) (S ++ [.lst (kvs.map fun kv => keyA kv.1)])
  | _, _, _ => False
def wBlt : Bf → List Va → Sto → PV → Prop
  | .list, [.lst xs], S, P => P (.loc S.length) (S ++ [.lst xs])
  | .list, [.tup xs], S, P => P (.loc S.length) (S ++ [.lst xs])
  | .list, [.scr ns], S, P => P (.loc S.length) (S ++ [.lst (ns.map Va.int)])
  | .list, [.loc k], S, P => ∃ o, S[k]? = some o ∧ listO o S P
  | .list, [.dct kvs], S, P => P (.loc S.length) (S ++ [.lst (kvs.map fun kv => keyA kv.1)])
  | .dict, [v], S, P => ∃ kvs, LD S v kvs ∧ P (.loc S.length) (S ++ [.dct kvs])
  | .tuple, [.lst xs], S, P => P (.tup xs) S
  | .tuple, [.tup xs], S, P => P (.tup xs) S
  | .tuple, [.loc k], S, P => ∃ xs, S[k]? = some (.lst xs) ∧ P (.tup xs) S
  | .sum, [v], S, P => ∃ ns : List Int, LV S v (ns.map Va.int) ∧ P (.int ns.sum) S
  | .max1, [v], S, P => ∃ ns : List Int, LV S v (ns.map Va.int) ∧ 0 < ns.length ∧ ∀ m, m ∈ ns → (∀ y, y ∈ ns → y ≤ m) → P (.int m) S
  | .min1, [v], S, P => ∃ ns : List Int, LV S v (ns.map Va.int) ∧ 0 < ns.length ∧ ∀ m, m ∈ ns → (∀ y, y ∈ ns → m ≤ y) → P (.int m) S
  | .max2, [.int i, .int j], S, P => P (.int (if j > i then j else i)) S
  | .min2, [.int i, .int j], S, P => P (.int (if j < i then j else i)) S
  | .sorted, [v], S, P => (∃ (kvs : List (Key × Va)) (ks : List Int), LD S v kvs ∧ kvs.map (·.1) = ks.map Sum.inl ∧ ks.length < 64 ∧ ∀ ns' : List Int, ns'.Perm ks → ns'.Pairwise (· ≤ ·) → P (.loc S.length) (S ++ [.lst (ns'.map Va.int)])) ∨ ∃ ns : List Int, LV S v (ns.map Va.int) ∧ ∀ ns' : List Int, ns'.Perm ns → ns'.Pairwise (· ≤ ·) → P (.loc S.length) (S ++ [.lst (ns'.map Va.int)])
  | .ord, [.str x], S, P => x.length = 1 ∧ P (.int (x.cps.getD 0 0 : Nat)) S
  | .str, [.int i], S, P => i.natAbs.log2 < 1920 ∧ P (.str (toString i)) S
  | .int, [.bl b], S, P => P (.int (if b = true then 1 else 0)) S
  | .int, [.int i], S, P => P (.int i) S
  | .int, [.str a], S, P => ∃ n, PySem.intText? a = some n ∧ a.length ≤ 640 ∧ P (.int n) S
  | .all, [v], S, P => ∃ bs : List Bool, LV S v (bs.map Va.bl) ∧ P (.bl (bs.all id)) S
  | .any, [v], S, P => ∃ bs : List Bool, LV S v (bs.map Va.bl) ∧ P (.bl (bs.any id)) S
  | _, _, _, _ => False

/-- what a method's own thing must be, ahead of the rest -/
def mOk (S : Sto) : Mf → Va → Prop
  | .join, v => ∃ a, v = .str a
  | _, v => ∃ xs, LV S v xs
def wMth : Mf → Va → List Va → Sto → PV → Prop
  | .append, .loc k, [y], S, P => ∃ xs, S[k]? = some (.lst xs) ∧ xs.length < 1000000 ∧ P .non (S.set k (.lst (xs ++ [y])))
  | .pop, .loc k, [], S, P => ∃ xs, S[k]? = some (.lst xs) ∧ ∃ y, xs[xs.length - 1]? = some y ∧ P y (S.set k (.lst xs.dropLast))
  | .extend, .loc k, [z], S, P => ∃ xs, S[k]? = some (.lst xs) ∧ ∃ zs, LV S z zs ∧ xs.length + zs.length ≤ 1000000 ∧ P .non (S.set k (.lst (xs ++ zs)))
  | .insert, .loc k, [.int i, y], S, P => ∃ xs, S[k]? = some (.lst xs) ∧ xs.length < 1000000 ∧ 0 ≤ i ∧ i < 2 ^ 63 ∧ P .non (S.set k (.lst (xs.take i.toNat ++ [y] ++ xs.drop i.toNat)))
  | .join, .str a, [z], S, P => ∃ ys : List Str, (z = .tup (ys.map Va.str) ∨ LV S z (ys.map Va.str)) ∧ (ys.map PySem.Str.length).sum + ys.length * a.length ≤ 16777216 ∧ P (.str (Txt.join a ys)) S
  | .index, o, [y], S, P => ∃ d ds j z, DV S o (.list ds) ∧ DV S y d ∧ SeqAt.shaped (.list ds) = true ∧ SeqAt.shaped d = true ∧ ds[j]? = some z ∧ PyData.eqv z d = true ∧ (∀ (m : Nat) (z' : PyData), m < j → ds[m]? = some z' → PyData.eqv z' d = false) ∧ P (.int (j : Nat)) S
  | .clear, .loc k, [], S, P => ∃ xs, S[k]? = some (.lst xs) ∧ P .non (S.set k (.lst []))
  | .remove, .loc k, [.int x], S, P => ∃ (ns : List Int) (j : Nat), S[k]? = some (.lst (ns.map Va.int)) ∧ ns[j]? = some x ∧ (∀ m : Nat, m < j → ns[m]? ≠ some x) ∧ P .non (S.set k (.lst ((ns.eraseIdx j).map Va.int)))
  | _, _, _, _, _ => False

/-- what a for, a comprehension walks: its things, what must stand at each turn -/
abbrev PI_ := List Va → (Sto → Prop) → Sto → Prop
def wSeq : Va → Sto → PI_ → Prop
  | .lst xs, S, P => P xs (fun _ => True) S
  | .tup xs, S, P => P xs (fun _ => True) S
  | .scr ns, S, P => P (ns.map Va.int) (fun _ => True) S
  | .str z, S, P => P (z.cps.toList.map fun c => Va.str ⟨#[c]⟩) (fun _ => True) S
  | .loc k, S, P => ∃ xs, S[k]? = some (.lst xs) ∧ P xs (fun S' => S'[k]? = some (.lst xs)) S
  | _, _, _ => False
/-- a list alone -/
def wLst : Va → Sto → PI_ → Prop
  | .lst xs, S, P => P xs (fun _ => True) S
  | .scr ns, S, P => P (ns.map Va.int) (fun _ => True) S
  | .loc k, S, P => ∃ xs, S[k]? = some (.lst xs) ∧ P xs (fun S' => S'[k]? = some (.lst xs)) S
  | _, _, _ => False
def enumV : Nat → List Va → List Va
  | _, [] => []
  | n, x :: xs => .tup [.int (n : Nat), x] :: enumV (n + 1) xs
def zipV : List Va → List Va → List Va
  | x :: xs, y :: ys => .tup [x, y] :: zipV xs ys
  | _, _ => []
def rangeV (lo : Int) (n : Nat) : List Va := (List.range n).map fun (i : Nat) => Va.int (lo + i)
/-- the items that a target takes apart -/
def partsOf (S : Sto) : Va → Option (List Va)
  | .tup xs => some xs
  | .lst xs => some xs
  | .loc k => match S[k]? with
    | some (.lst xs) => some xs
    | _ => none
  | _ => none
mutual
def bindT (S : Sto) : Tg → Va → Env → Option Env
  | .name i, v, Γ => some (Γ.set i (some v))
  | .tup ts, v, Γ => match partsOf S v with
    | some xs => bindTs S ts xs Γ
    | none => none
def bindTs (S : Sto) : Tgs → List Va → Env → Option Env
  | .nil, [], Γ => some Γ
  | .cons t ts, x :: xs, Γ => match bindT S t x Γ with
    | some Γ1 => bindTs S ts xs Γ1
    | none => none
  | _, _, _ => none
end
def wipeA (Γ : Env) : List Nat → Env
  | [] => Γ
  | v :: vs => (wipeA Γ vs).set v none
/-- a comprehension's turns: d the place of the list that grows -/
def cpL (bind : Va → Sto → Option Env) (t : Env → Sto → (Bool → Sto → Prop) → Prop) (e : Env → Sto → PV → Prop) (G : Sto → Prop) (d : Nat) (P : PV) : List Va → Sto → Prop
  | [], S => P (.loc d) S
  | x :: xs, S => ∃ Γ1, bind x S = some Γ1 ∧ t Γ1 S fun b S2 => if b = true then e Γ1 S2 fun v S3 => ∃ acc, S3[d]? = some (.lst acc) ∧ acc.length < 1000000 ∧ G (S3.set d (.lst (acc ++ [v]))) ∧ cpL bind t e G d P xs (S3.set d (.lst (acc ++ [v])))
      else G S2 ∧ cpL bind t e G d P xs S2
structure Orc where
  run : Str → List Va → Sto → PV → PX → Prop
  meth : Str → Str → Option Str
  noat : Str → Str → Bool
  init : Str → Option (Option Str)
  glob : Str → Option Va
  isa : Str → Str → Option Bool
  gdct : Str → Option (List (Str × Option Va))
/-- an object's field -/
def fldO (C : Orc) (f : Str) : Ob → Option Va
  | .ins c fs => if C.noat c f = true then fs.lookup f else none
  | _ => none
def clsOf : Ob → Str
  | .ins c _ => c
  | _ => ""
def putFO (C : Orc) (f : Str) (v : Va) : Ob → Option Ob
  | .ins c fs => if C.noat c f = true ∧ fs.length < 1000 then some (.ins c (putFA f v fs)) else none
  | _ => none
/-- whether an object is one of an own class -/
def clsIs (C : Orc) (x : Str) : Ob → Option Bool
  | .ins c _ => C.isa c x
  | _ => none
/-- the def behind an object's method -/
def mkey (C : Orc) (m : Str) : Ob → Option Str
  | .ins c fs => if fs.lookup m = none then C.meth c m else none
  | _ => none
/-- what o[i] = v makes of an object -/
def putO : Ob → Va → Va → Option Ob
  | .lst xs, .int j, v => (L2.ixN xs.length j).map fun n => .lst (xs.set n v)
  | .dct kvs, y, v => match keyV y with
    | some kk => if kvs.length < 1000000 then some (.dct (dput kvs kk v)) else none
    | none => none
  | _, _, _ => none
def isD (S : Sto) (v : Va) : Prop := ∃ kvs, LD S v kvs

mutual
def W (C : Orc) : Ex → Env → Sto → PV → PX → Prop
  | .var i, Γ, S, P, _ => ∃ v, gt Γ i = some v ∧ P v S
  | .int i, _, S, P, _ => P (.int i) S
  | .bl b, _, S, P, _ => P (.bl b) S
  | .non, _, S, P, _ => P .non S
  | .str x, _, S, P, _ => P (.str x) S
  | .glob x, _, S, P, _ => ∃ v, C.glob x = some v ∧ P v S
  | .tup es, Γ, S, P, E => WL C es Γ S (fun vs S1 => vs.length ≤ 1000 ∧ P (.tup vs) S1) E
  | .lst es, Γ, S, P, E => WL C es Γ S (fun vs S1 => vs.length ≤ 1000 ∧ P (.loc S1.length) (S1 ++ [.lst vs])) E
  | .bin op a b, Γ, S, P, E => W C a Γ S (fun x S1 => W C b Γ S1 (fun y S2 => wBin op x y S2 P) E) E
  | .neg a, Γ, S, P, E => W C a Γ S (fun x S1 => wNeg x S1 P) E
  | .cmp op a b, Γ, S, P, E => W C a Γ S (fun x S1 => W C b Γ S1 (fun y S2 => wCmp op x y S2 P) E) E
  | .isN a, Γ, S, P, E => W C a Γ S (fun x S1 => P (.bl (isNon x)) S1) E
  | .notN a, Γ, S, P, E => W C a Γ S (fun x S1 => P (.bl (!isNon x)) S1) E
  | .lrev a, Γ, S, P, E => W C a Γ S (fun x S1 => ∃ xs, LV S1 x xs ∧ P (.loc S1.length) (S1 ++ [.lst xs.reverse])) E
  | .chain op op' a b c, Γ, S, P, E => W C a Γ S (fun x S1 => W C b Γ S1 (fun y S2 => wCmp op x y S2 (fun z S3 => ∃ k, z = .bl k ∧ if k = true then W C c Γ S3 (fun u S4 => wCmp op' y u S4 P) E else P (.bl false) S3)) E) E
  | .tst t, Γ, S, P, E => WB C t Γ S P E
  | .ite t a b, Γ, S, P, E => WT C t Γ S (fun k S1 => if k = true then W C a Γ S1 P E else W C b Γ S1 P E) E
  | .call f es, Γ, S, P, E => WL C es Γ S (fun vs S1 => C.run f vs S1 P E) E
  | .len a, Γ, S, P, E => W C a Γ S (fun x S1 => wLen x S1 P) E
  | .abs a, Γ, S, P, E => W C a Γ S (fun x S1 => wAbs x S1 P) E
  | .isi a t, Γ, S, P, E => W C a Γ S (fun x S1 => ∃ b, tyIs S1 x t = some b ∧ P (.bl b) S1) E
  | .sub a i, Γ, S, P, E => W C a Γ S (fun x S1 => W C i Γ S1 (fun y S2 => wSub x y S2 P) E) E
  | .slice a lo hi, Γ, S, P, E => W C a Γ S (fun x S1 => WOe C lo Γ S1 (fun l S2 => WOe C hi Γ S2 (fun h S3 => wSlice x l h S3 P) E) E) E
  | .blt f es, Γ, S, P, E => WL C es Γ S (fun vs S1 => wBlt f vs S1 P) E
  | .mth m o es, Γ, S, P, E => W C o Γ S (fun x S1 => mOk S1 m x ∧ WL C es Γ S1 (fun vs S2 => wMth m x vs S2 P) E) E
  | .comp own elt tg it cond, Γ, S, P, E => WI C it Γ S (fun xs G S1 => G (S1 ++ [.lst []]) ∧ cpL (fun x S => bindT S tg x (wipeA Γ own)) (fun Γ S Q => WT0 C cond Γ S Q) (fun Γ S Q => W C elt Γ S Q (fun _ _ => False)) G S1.length P xs (S1 ++ [.lst []])) E
  | .fld o f, Γ, S, P, E => W C o Γ S (fun x S1 => ∃ k, x = .loc k ∧ ∃ ob, S1[k]? = some ob ∧ ∃ v, fldO C f ob = some v ∧ P v S1) E
  | .mcall o m es, Γ, S, P, E => W C o Γ S (fun x S1 => ∃ k, x = .loc k ∧ ∃ ob, S1[k]? = some ob ∧ ∃ key, mkey C m ob = some key ∧ WL C es Γ S1 (fun vs S2 => C.run key (x :: vs) S2 P E) E) E
  | .make c es, Γ, S, P, E => ∃ key, C.init c = some (some key) ∧ WL C es Γ S (fun vs S1 => C.run key (.loc S1.length :: vs) (S1 ++ [.ins c []]) (fun v S2 => v = .non ∧ P (.loc S1.length) S2) E) E
  | .make0 c, _, S, P, _ => C.init c = some none ∧ P (.loc S.length) (S ++ [.ins c []])
  | .isc a x, Γ, S, P, E => W C a Γ S (fun v S1 => ∃ k, v = .loc k ∧ ∃ ob, S1[k]? = some ob ∧ ∃ b, clsIs C x ob = some b ∧ P (.bl b) S1) E
  | .dsp es, Γ, S, P, E => WL C es Γ (S ++ [.dct []]) (fun vs S1 => ∃ kvs, pairsV vs = some kvs ∧ kvs.length ≤ 15 ∧ S1[S.length]? = some (.dct []) ∧ P (.loc S.length) (S1.set S.length (.dct (mergeA [] kvs)))) E
  | .get1 o k, Γ, S, P, E => W C o Γ S (fun x S1 => isD S1 x ∧ W C k Γ S1 (fun y S2 => ∃ kvs, LD S2 x kvs ∧ ∃ kk, keyV y = some kk ∧ P ((dget kvs kk).getD .non) S2) E) E
  | .get2 o k d, Γ, S, P, E => W C o Γ S (fun x S1 => isD S1 x ∧ W C k Γ S1 (fun y S2 => W C d Γ S2 (fun z S3 => ∃ kvs, LD S3 x kvs ∧ ∃ kk, keyV y = some kk ∧ P ((dget kvs kk).getD z) S3) E) E) E
  | .gget x k d, Γ, S, P, E => ∃ l, C.gdct x = some l ∧ W C k Γ S (fun y S1 => W C d Γ S1 (fun z S2 => ∃ s, y = .str s ∧ ∃ o, l.lookup s = some o ∧ P (o.getD z) S2) E) E
  | .dpop1 o k, Γ, S, P, E => W C o Γ S (fun x S1 => isD S1 x ∧ W C k Γ S1 (fun y S2 => ∃ n, x = .loc n ∧ ∃ kvs, S2[n]? = some (.dct kvs) ∧ ∃ kk, keyV y = some kk ∧ ∃ v, dget kvs kk = some v ∧ P v (S2.set n (.dct (ddrop kvs kk)))) E) E
  | .dpop2 o k d, Γ, S, P, E => W C o Γ S (fun x S1 => isD S1 x ∧ W C k Γ S1 (fun y S2 => W C d Γ S2 (fun z S3 => ∃ n, x = .loc n ∧ ∃ kvs, S3[n]? = some (.dct kvs) ∧ ∃ kk, keyV y = some kk ∧ ((∃ v, dget kvs kk = some v ∧ P v (S3.set n (.dct (ddrop kvs kk)))) ∨ (dget kvs kk = none ∧ P z S3))) E) E) E
def WOe (C : Orc) : Oe → Env → Sto → (Option Int → Sto → Prop) → PX → Prop
  | .none, _, S, P, _ => P none S
  | .some e, Γ, S, P, E => W C e Γ S (fun v S1 => ∃ i, v = .int i ∧ P (some i) S1) E
def WI (C : Orc) : It → Env → Sto → PI_ → PX → Prop
  | .seq e, Γ, S, P, E => W C e Γ S (fun v S1 => wSeq v S1 P) E
  | .range1 a, Γ, S, P, E => W C a Γ S (fun v S1 => ∃ i : Int, v = .int i ∧ -(2 ^ 62) ≤ i ∧ i < 2 ^ 62 ∧ P (rangeV 0 i.toNat) (fun _ => True) S1) E
  | .range2 a b, Γ, S, P, E => W C a Γ S (fun v S1 => W C b Γ S1 (fun u S2 => ∃ i : Int, v = .int i ∧ ∃ j : Int, u = .int j ∧ (-(2 ^ 62) ≤ i ∧ i < 2 ^ 62 ∧ -(2 ^ 62) ≤ j ∧ j < 2 ^ 62) ∧ P (rangeV i (j - i).toNat) (fun _ => True) S2) E) E
  | .enum e, Γ, S, P, E => W C e Γ S (fun v S1 => wLst v S1 fun xs G S2 => P (enumV 0 xs) G S2) E
  | .zip a b, Γ, S, P, E => W C a Γ S (fun v S1 => W C b Γ S1 (fun u S2 => wLst v S2 fun xs G S3 => wLst u S3 fun ys G' S4 => P (zipV xs ys) (fun S' => G S' ∧ G' S') S4) E) E
  | .rev e, Γ, S, P, E => W C e Γ S (fun v S1 => wLst v S1 fun xs G S2 => P xs.reverse G S2) E
def WT0 (C : Orc) : Tes0 → Env → Sto → (Bool → Sto → Prop) → Prop
  | .none, _, S, P => P true S
  | .some t, Γ, S, P => WT C t Γ S P (fun _ _ => False)
/-- a test -/
def WT (C : Orc) : Te → Env → Sto → (Bool → Sto → Prop) → PX → Prop
  | .val e, Γ, S, P, E => W C e Γ S (fun v S1 => ∃ b, tru S1 v = some b ∧ P b S1) E
  | .not t, Γ, S, P, E => WT C t Γ S (fun b S1 => P (!b) S1) E
  | .and ts, Γ, S, P, E => WA C ts Γ S P E
  | .or ts, Γ, S, P, E => WO C ts Γ S P E
def WA (C : Orc) : Tes → Env → Sto → (Bool → Sto → Prop) → PX → Prop
  | .one t, Γ, S, P, E => WT C t Γ S P E
  | .cons t ts, Γ, S, P, E => WT C t Γ S (fun b S1 => if b = true then WA C ts Γ S1 P E else P false S1) E
def WO (C : Orc) : Tes → Env → Sto → (Bool → Sto → Prop) → PX → Prop
  | .one t, Γ, S, P, E => WT C t Γ S P E
  | .cons t ts, Γ, S, P, E => WT C t Γ S (fun b S1 => if b = true then P true S1 else WO C ts Γ S1 P E) E
/-- a test as a value: its parts but the last are truths -/
def WB (C : Orc) : Te → Env → Sto → PV → PX → Prop
  | .val e, Γ, S, P, E => W C e Γ S P E
  | .not t, Γ, S, P, E => WB C t Γ S (fun v S1 => ∃ b, v = .bl b ∧ P (.bl (!b)) S1) E
  | .and ts, Γ, S, P, E => WBA C ts Γ S P E
  | .or ts, Γ, S, P, E => WBO C ts Γ S P E
def WBA (C : Orc) : Tes → Env → Sto → PV → PX → Prop
  | .one t, Γ, S, P, E => WB C t Γ S P E
  | .cons t ts, Γ, S, P, E => WB C t Γ S (fun v S1 => ∃ b, v = .bl b ∧ if b = true then WBA C ts Γ S1 P E else P (.bl false) S1) E
def WBO (C : Orc) : Tes → Env → Sto → PV → PX → Prop
  | .one t, Γ, S, P, E => WB C t Γ S P E
  | .cons t ts, Γ, S, P, E => WB C t Γ S (fun v S1 => ∃ b, v = .bl b ∧ if b = true then P (.bl true) S1 else WBO C ts Γ S1 P E) E
def WL (C : Orc) : Exs → Env → Sto → PL → PX → Prop
  | .nil, _, S, P, _ => P [] S
  | .cons e es, Γ, S, P, E => W C e Γ S (fun v S1 => WL C es Γ S1 (fun vs S2 => P (v :: vs) S2) E) E
end

abbrev PE_ := Env → Sto → Prop
def augI : Bop → Int → Int → Option Int
  | .add, n, m => some (n + m) | .sub, n, m => some (n - m) | _, _, _ => none
structure AEnds where
  nx : PE_
  rt : PV
  bk : PE_ := fun _ _ => False
  ct : PE_ := fun _ _ => False
  ex : Str → Env → Sto → Prop := fun _ _ _ => False

/-- a while, n turns at most -/
def whN (t : Env → Sto → (Bool → Sto → Prop) → Prop) (b : PE_ → Env → Sto → Prop) (nx : PE_) : Nat → PE_
  | 0, _, _ => False
  | n + 1, Γ, S => t Γ S fun k S1 => if k = true then b (whN t b nx n) Γ S1 else nx Γ S1

/-- a for's turns -/
def frL (bind : Va → Env → Sto → Option Env) (b : PE_ → Env → Sto → Prop) (G : Sto → Prop) (nx : PE_) : List Va → PE_
  | [], Γ, S => nx Γ S
  | x :: xs, Γ, S => ∃ Γ1, bind x Γ S = some Γ1 ∧ b (fun Γ' S' => G S' ∧ frL bind b G nx xs Γ' S') Γ1 S

mutual
def WS (C : Orc) : Sm → AEnds → Env → Sto → Prop
  | .set i e, D, Γ, S => W C e Γ S (fun v S1 => D.nx (Γ.set i (some v)) S1) (fun x S1 => D.ex x Γ S1)
  | .ret e, D, Γ, S => W C e Γ S D.rt (fun x S1 => D.ex x Γ S1)
  | .retN, D, _, S => D.rt .non S
  | .pass, D, Γ, S => D.nx Γ S
  | .brk, D, Γ, S => D.bk Γ S
  | .cont, D, Γ, S => D.ct Γ S
  | .drop e, D, Γ, S => W C e Γ S (fun _ S1 => D.nx Γ S1) (fun x S1 => D.ex x Γ S1)
  | .ite t a b, D, Γ, S => WT C t Γ S (fun k S1 => if k = true then WSs C a D Γ S1 else WSs C b D Γ S1) (fun x S1 => D.ex x Γ S1)
  | .whil t b, D, Γ, S => ∃ n, whN (fun Γ S P => WT C t Γ S P (fun x S1 => D.ex x Γ S1)) (fun Nx Γ S => WSs C b { D with nx := Nx, ct := Nx, bk := D.nx } Γ S) D.nx n Γ S
  | .raise x, D, Γ, S => D.ex x Γ S
  | .asg tg e, D, Γ, S => W C e Γ S (fun v S1 => ∃ Γ1, bindT S1 tg v Γ = some Γ1 ∧ D.nx Γ1 S1) (fun x S1 => D.ex x Γ S1)
  | .setSub o i e, D, Γ, S => W C e Γ S (fun v S1 => W C o Γ S1 (fun x S2 => W C i Γ S2 (fun y S3 => ∃ k, x = .loc k ∧ ∃ ob, S3[k]? = some ob ∧ ∃ ob', putO ob y v = some ob' ∧ D.nx Γ (S3.set k ob')) (fun x S1 => D.ex x Γ S1)) (fun x S1 => D.ex x Γ S1)) (fun x S1 => D.ex x Γ S1)
  | .aug i op e, D, Γ, S => ∃ x, gt Γ i = some x ∧ W C e Γ S (fun y S1 => ∃ n : Int, x = .int n ∧ ∃ m : Int, y = .int m ∧ ∃ r : Int, augI op n m = some r ∧ D.nx (Γ.set i (some (.int r))) S1) (fun x S1 => D.ex x Γ S1)
  | .setC i own elt tg it cond, D, Γ, S => WI C it Γ S (fun xs G S1 => G (S1 ++ [.lst []]) ∧ cpL (fun x S => bindT S tg x (wipeA Γ own)) (fun Γ S Q => WT0 C cond Γ S Q) (fun Γ S Q => W C elt Γ S Q (fun _ _ => False)) G S1.length (fun v S2 => D.nx (Γ.set i (some v)) S2) xs (S1 ++ [.lst []])) (fun x S1 => D.ex x Γ S1)
  | .for_ tg it b, D, Γ, S => WI C it Γ S (fun xs G S1 => G S1 ∧ frL (fun x Γ S => bindT S tg x Γ) (fun Nx Γ S => WSs C b { D with nx := Nx, ct := Nx, bk := D.nx } Γ S) G D.nx xs Γ S1) (fun x S1 => D.ex x Γ S1)
  | .setFld o f e, D, Γ, S => W C e Γ S (fun v S1 => W C o Γ S1 (fun x S2 => ∃ k, x = .loc k ∧ ∃ ob, S2[k]? = some ob ∧ ∃ ob', putFO C f v ob = some ob' ∧ D.nx Γ (S2.set k ob')) (fun x S1 => D.ex x Γ S1)) (fun x S1 => D.ex x Γ S1)
  | .augFld o f op e, D, Γ, S => op = .add ∧ W C o Γ S (fun x S1 => ∃ k, x = .loc k ∧ ∃ ob, S1[k]? = some ob ∧ ∃ u, fldO C f ob = some u ∧ W C e Γ S1 (fun y S2 => ∃ n : Int, u = .int n ∧ ∃ m : Int, y = .int m ∧ ∃ ob2, S2[k]? = some ob2 ∧ clsOf ob2 = clsOf ob ∧ ∃ ob', putFO C f (.int (n + m)) ob2 = some ob' ∧ D.nx Γ (S2.set k ob')) (fun x S1 => D.ex x Γ S1)) (fun x S1 => D.ex x Γ S1)
def WSs (C : Orc) : Sms → AEnds → Env → Sto → Prop
  | .nil, D, Γ, S => D.nx Γ S
  | .cons s ss, D, Γ, S => WS C s { D with nx := fun Γ S => WSs C ss D Γ S } Γ S
end
end AM

namespace AM
mutual
/-- the slots that a target fills -/
def tgS : Tg → List Nat
  | .name i => [i]
  | .tup ts => tgsS ts
def tgsS : Tgs → List Nat
  | .nil => []
  | .cons t ts => tgS t ++ tgsS ts
end
end AM
end

section
set_option linter.all false
set_option maxRecDepth 100000
/-! AM, second part: how the store stands for the heap. -/
namespace AM
open PySem L2

section
variable (K : PySem.W.Frag) (F : Hp) (β : List Addr)
mutual
def VR : Va → V → Prop
  | .non, x => x = .non
  | .bl b, x => x = .bl b
  | .int i, x => x = .int i
  | .str z, x => x = .str z
  | .tup xs, x => ∃ a ys, x = .ref a ∧ SqT K F a ys ∧ VRs xs ys
  | .lst xs, x => ∃ a ys, x = .ref a ∧ F a = some (.lst ys) ∧ VRs xs ys
  | .dct kvs, x => ∃ a ys, x = .ref a ∧ F a = some (.dK ys) ∧ VRk kvs ys
  | .loc n, x => ∃ a, x = .ref a ∧ β[n]? = some a
  | .scr ns, x => ∃ a, x = .ref a ∧ SqL K F a (ns.map V.int)
def VRs : List Va → List V → Prop
  | [], ys => ys = []
  | x :: xs, ys => ∃ y r, ys = y :: r ∧ VR x y ∧ VRs xs r
def VRk : List (Key × Va) → List (Key × V) → Prop
  | [], ys => ys = []
  | (k, x) :: xs, ys => ∃ y r, ys = (k, y) :: r ∧ VR x y ∧ VRk xs r
end
def VRf : List (Str × Va) → List (Str × V) → Prop
  | [], ys => ys = []
  | (k, x) :: xs, ys => ∃ y r, ys = (k, y) :: r ∧ VR K F β x y ∧ VRf xs r

/-- an object of the store at its address -/
def OR (cA : Str → Addr) (H : Hp) : Ob → Addr → Prop
  | .lst xs, a => ∃ ys, H a = some (.lst ys) ∧ VRs K F β xs ys
  | .dct kvs, a => ∃ ys, H a = some (.dK ys) ∧ VRk K F β kvs ys
  | .ins C fs, a => ∃ dx ys, H a = some (.ins (cA C) dx ys) ∧ VRf K F β fs ys
  | .dead, _ => True
end

/-- F: what is frozen; β: where the store's objects stand -/
structure Sim (K : PySem.W.Frag) (cA : Str → Addr) (F : Hp) (β : List Addr) (S : Sto) (H : Hp) : Prop where
  sub : Same F H
  len : β.length = S.length
  inj : ∀ (i j : Nat) (a : Addr), β[i]? = some a → β[j]? = some a → i = j
  obj : ∀ (i : Nat) (o : Ob) (a : Addr), S[i]? = some o → β[i]? = some a → F a = none ∧ OR K F β cA H o a
  fresh : ∀ a ∈ β, H a ≠ none

def VRo (K : PySem.W.Frag) (F : Hp) (β : List Addr) : Option Va → Option V → Prop
  | some v, some x => VR K F β v x
  | some _, none => False
  | none, _ => True
def EnvR (K : PySem.W.Frag) (F : Hp) (β : List Addr) : Env → St → Prop
  | [], [] => True
  | v :: Γ, x :: σ => VRo K F β v x ∧ EnvR K F β Γ σ
  | _, _ => False

structure Ext (F : Hp) (β : List Addr) (F' : Hp) (β' : List Addr) : Prop where
  sub : Same F F'
  pre : β <+: β'

theorem SqL.mono {K : PySem.W.Frag} {F F' : Hp} (h : Same F F') {a : Addr} {xs : List V} (x : SqL K F a xs) : SqL K F' a xs := h.seq x
theorem SqT.mono {K : PySem.W.Frag} {F F' : Hp} (h : Same F F') {a : Addr} {xs : List V} (x : SqT K F a xs) : SqT K F' a xs := by
  rcases x with (x | ⟨o, x⟩) | x
  · exact .inl (.inl (h _ _ x))
  · exact .inl (.inr ⟨o, h _ _ x⟩)
  · exact .inr x
theorem Rd.mono {F F' : Hp} (h : Same F F') {a : Addr} {u : HO} (x : Rd F a u) : Rd F' a u := by
  rcases x with x | ⟨o, x⟩
  · exact .inl (h _ _ x)
  · exact .inr ⟨o, h _ _ x⟩
theorem pre_get {β β' : List Addr} (h : β <+: β') {n : Nat} {a : Addr} (e : β[n]? = some a) : β'[n]? = some a := by
  obtain ⟨t, rfl⟩ := h
  have hl : n < β.length := by
    by_cases q : n < β.length
    · exact q
    · rw [List.getElem?_eq_none (by omega)] at e; cases e
  rw [List.getElem?_append_left hl]; exact e

section
variable {K : PySem.W.Frag} {F F' : Hp} {β β' : List Addr} (h : Same F F') (hb : β <+: β')
include h hb
mutual
theorem VR.mono : ∀ (v : Va) (x : V), VR K F β v x → VR K F' β' v x
  | .non, x, q => q
  | .bl b, x, q => q
  | .int i, x, q => q
  | .str z, x, q => q
  | .tup xs, x, ⟨a, ys, e, s, r⟩ => ⟨a, ys, e, SqT.mono h s, VRs.mono xs ys r⟩
  | .lst xs, x, ⟨a, ys, e, s, r⟩ => ⟨a, ys, e, h _ _ s, VRs.mono xs ys r⟩
  | .dct kvs, x, ⟨a, ys, e, s, r⟩ => ⟨a, ys, e, h _ _ s, VRk.mono kvs ys r⟩
  | .loc n, x, ⟨a, e, q⟩ => ⟨a, e, pre_get hb q⟩
  | .scr ns, x, ⟨a, e, q⟩ => ⟨a, e, SqL.mono h q⟩
theorem VRs.mono : ∀ (v : List Va) (x : List V), VRs K F β v x → VRs K F' β' v x
  | [], x, q => q
  | v :: vs, x, ⟨y, r, e, q, qs⟩ => ⟨y, r, e, VR.mono v y q, VRs.mono vs r qs⟩
theorem VRk.mono : ∀ (v : List (Key × Va)) (x : List (Key × V)), VRk K F β v x → VRk K F' β' v x
  | [], x, q => q
  | (k, v) :: vs, x, ⟨y, r, e, q, qs⟩ => ⟨y, r, e, VR.mono v y q, VRk.mono vs r qs⟩
end
theorem VRf.mono : ∀ (v : List (Str × Va)) (x : List (Str × V)), VRf K F β v x → VRf K F' β' v x
  | [], x, q => q
  | (k, v) :: vs, x, ⟨y, r, e, q, qs⟩ => ⟨y, r, e, VR.mono h hb v y q, VRf.mono vs r qs⟩
theorem VRo.mono : ∀ (v : Option Va) (x : Option V), VRo K F β v x → VRo K F' β' v x
  | some v, some x, q => VR.mono h hb v x q
  | none, _, _ => trivial
theorem EnvR.mono : ∀ (Γ : Env) (σ : St), EnvR K F β Γ σ → EnvR K F' β' Γ σ
  | [], [], _ => trivial
  | v :: Γ, x :: σ, ⟨q, r⟩ => ⟨VRo.mono h hb v x q, EnvR.mono Γ σ r⟩
end
theorem Ext.refl (F : Hp) (β : List Addr) : Ext F β F β := ⟨Same.refl F, List.prefix_refl β⟩
theorem Ext.trans {F F1 F2 : Hp} {β β1 β2 : List Addr} (a : Ext F β F1 β1) (b : Ext F1 β1 F2 β2) : Ext F β F2 β2 := ⟨a.sub.trans b.sub, a.pre.trans b.pre⟩

section
variable {K : PySem.W.Frag} {F : Hp} {β : List Addr}
theorem EnvR.get : ∀ {Γ : Env} {σ : St} {i : Nat} {v : Va}, EnvR K F β Γ σ → gt Γ i = some v → ∃ x, σ[i]? = some (some x) ∧ VR K F β v x
  | [], _, i, v, _, e => by simp [gt] at e
  | o :: Γ, [], i, v, h, e => by simp [EnvR] at h
  | o :: Γ, x :: σ, 0, v, ⟨h, _⟩, e => by
    have e' : o = some v := e
    subst e'
    cases x with
    | none => exact h.elim
    | some x => exact ⟨x, rfl, h⟩
  | o :: Γ, x :: σ, i + 1, v, ⟨_, h⟩, e => by
    obtain ⟨y, e1, r⟩ := EnvR.get (i := i) h e
    exact ⟨y, by simpa using e1, r⟩
theorem EnvR.set : ∀ {Γ : Env} {σ : St} {i : Nat} {v : Va} {x : V}, EnvR K F β Γ σ → VR K F β v x → EnvR K F β (Γ.set i (some v)) (σ.set i (some x))
  | [], [], _, _, _, _, _ => trivial
  | [], _ :: _, _, _, _, h, _ => by simp [EnvR] at h
  | _ :: _, [], _, _, _, h, _ => by simp [EnvR] at h
  | o :: Γ, y :: σ, 0, v, x, ⟨_, h⟩, r => ⟨r, h⟩
  | o :: Γ, y :: σ, i + 1, v, x, ⟨q, h⟩, r => ⟨q, EnvR.set h r⟩
theorem EnvR.len : ∀ {Γ : Env} {σ : St}, EnvR K F β Γ σ → Γ.length = σ.length
  | [], [], _ => rfl
  | [], _ :: _, h => by simp [EnvR] at h
  | _ :: _, [], h => by simp [EnvR] at h
  | _ :: Γ, _ :: σ, ⟨_, h⟩ => by simp [EnvR.len h]
theorem VRs.len : ∀ {xs : List Va} {ys : List V}, VRs K F β xs ys → xs.length = ys.length
  | [], _, h => by cases (show _ = [] from h); rfl
  | x :: xs, _, ⟨y, r, e, _, q⟩ => by subst e; simp [VRs.len q]
theorem VRs.get : ∀ {xs : List Va} {ys : List V} {i : Nat} {v : Va}, VRs K F β xs ys → xs[i]? = some v → ∃ x, ys[i]? = some x ∧ VR K F β v x
  | [], _, i, v, _, e => by simp at e
  | x :: xs, _, 0, v, ⟨y, r, e, q, _⟩, h => by subst e; simp at h; subst h; exact ⟨y, rfl, q⟩
  | x :: xs, _, i + 1, v, ⟨y, r, e, _, q⟩, h => by
    subst e
    obtain ⟨z, e1, r1⟩ := VRs.get (i := i) (v := v) q (by simpa using h)
    exact ⟨z, by simpa using e1, r1⟩
theorem VRs.append : ∀ {xs xs' : List Va} {ys ys' : List V}, VRs K F β xs ys → VRs K F β xs' ys' → VRs K F β (xs ++ xs') (ys ++ ys')
  | [], _, _, _, h, q => by cases (show _ = [] from h); exact q
  | x :: xs, _, _, _, ⟨y, r, e, q, qs⟩, h => by subst e; exact ⟨y, _, rfl, q, VRs.append qs h⟩
end

theorem EnvR.wipe1 {K : PySem.W.Frag} {F : Hp} {β : List Addr} : ∀ {Γ : Env} {σ : St} {i : Nat} {o : Option V}, EnvR K F β Γ σ → EnvR K F β (Γ.set i none) (σ.set i o)
  | [], [], _, _, _ => trivial
  | [], _ :: _, _, _, h => by simp [EnvR] at h
  | _ :: _, [], _, _, h => by simp [EnvR] at h
  | o :: Γ, y :: σ, 0, _, ⟨_, h⟩ => ⟨trivial, h⟩
  | o :: Γ, y :: σ, i + 1, _, ⟨q, h⟩ => ⟨q, EnvR.wipe1 h⟩
theorem VRs.ints {K : PySem.W.Frag} {F : Hp} {β : List Addr} : ∀ {ns : List Int} {ys : List V}, VRs K F β (ns.map Va.int) ys ↔ ys = ns.map V.int
  | [], ys => Iff.rfl
  | n :: ns, ys => by
    constructor
    · rintro ⟨y, r, e, q, qs⟩
      cases (show y = .int n from q)
      rw [e, VRs.ints.mp qs]; rfl
    · rintro rfl
      exact ⟨.int n, ns.map V.int, rfl, rfl, VRs.ints.mpr rfl⟩
theorem VRs.bls {K : PySem.W.Frag} {F : Hp} {β : List Addr} : ∀ {ns : List Bool} {ys : List V}, VRs K F β (ns.map Va.bl) ys ↔ ys = ns.map V.bl
  | [], ys => Iff.rfl
  | n :: ns, ys => by
    constructor
    · rintro ⟨y, r, e, q, qs⟩
      cases (show y = .bl n from q)
      rw [e, VRs.bls.mp qs]; rfl
    · rintro rfl
      exact ⟨.bl n, ns.map V.bl, rfl, rfl, VRs.bls.mpr rfl⟩
theorem VRs.strs {K : PySem.W.Frag} {F : Hp} {β : List Addr} : ∀ {ns : List Str} {ys : List V}, VRs K F β (ns.map Va.str) ys ↔ ys = ns.map V.str
  | [], ys => Iff.rfl
  | n :: ns, ys => by
    constructor
    · rintro ⟨y, r, e, q, qs⟩
      cases (show y = .str n from q)
      rw [e, VRs.strs.mp qs]; rfl
    · rintro rfl
      exact ⟨.str n, ns.map V.str, rfl, rfl, VRs.strs.mpr rfl⟩
section
variable {K : PySem.W.Frag} {cA : Str → Addr} {F : Hp} {β : List Addr} {S : Sto} {H : Hp}
theorem OR.mono {F' : Hp} {β' : List Addr} {H' : Hp} (h : Same F F') (hb : β <+: β') {o : Ob} {a : Addr} (e : H' a = H a) (q : OR K F β cA H o a) : OR K F' β' cA H' o a := by
  cases o with
  | lst xs => obtain ⟨ys, e1, r⟩ := q; exact ⟨ys, e.trans e1, VRs.mono h hb _ _ r⟩
  | dct kvs => obtain ⟨ys, e1, r⟩ := q; exact ⟨ys, e.trans e1, VRk.mono h hb _ _ r⟩
  | ins C fs => obtain ⟨dx, ys, e1, r⟩ := q; exact ⟨dx, ys, e.trans e1, VRf.mono h hb _ _ r⟩
  | dead => trivial
theorem lt_of_get {α : Type} {l : List α} {i : Nat} {x : α} (e : l[i]? = some x) : i < l.length := by
  by_cases q : i < l.length
  · exact q
  · rw [List.getElem?_eq_none (by omega)] at e; cases e
theorem Sim.at (s : Sim K cA F β S H) {k : Nat} {o : Ob} (e : S[k]? = some o) : ∃ a, β[k]? = some a ∧ F a = none ∧ OR K F β cA H o a := by
  have hk := lt_of_get e
  have hk2 : k < β.length := by rw [s.len]; exact hk
  exact ⟨β[k], by simp [hk2], s.obj k o _ e (by simp [hk2])⟩
/-- a frozen object laid -/
theorem Sim.lay (s : Sim K cA F β S H) {p : Addr} (hp : H p = none) (o : HO) : Sim K cA (upd F p o) β S (upd H p o) ∧ Same F (upd F p o) := by
  have fp : F p = none := s.sub.free hp
  have sub : Same F (upd F p o) := fun b u e => by rw [upd_ne (ne_of_none e fp)]; exact e
  have hne : ∀ a ∈ β, a ≠ p := fun a ha e => s.fresh a ha (e ▸ hp)
  refine ⟨⟨fun b u e => ?_, s.len, s.inj, fun i ob a e1 e2 => ?_, fun a ha => ?_⟩, sub⟩
  · by_cases hb : b = p
    · subst hb; rw [upd_same] at e ⊢; exact e
    · rw [upd_ne hb] at e ⊢; exact s.sub _ _ e
  · obtain ⟨h1, h2⟩ := s.obj i ob a e1 e2
    have ha : a ≠ p := hne a (List.mem_of_getElem? e2)
    exact ⟨by rw [upd_ne ha]; exact h1, OR.mono sub (List.prefix_refl _) (by rw [upd_ne ha]) h2⟩
  · rw [upd_ne (hne a ha)]; exact s.fresh a ha
/-- an object of the store laid -/
theorem Sim.new (s : Sim K cA F β S H) {p : Addr} (hp : H p = none) {o : Ob} {u : HO} (q : OR K F (β ++ [p]) cA (upd H p u) o p) : Sim K cA F (β ++ [p]) (S ++ [o]) (upd H p u) := by
  have fp : F p = none := s.sub.free hp
  have hne : ∀ a ∈ β, a ≠ p := fun a ha e => s.fresh a ha (e ▸ hp)
  refine ⟨fun b v e => ?_, by simp [s.len], fun i j a e1 e2 => ?_, fun i ob a e1 e2 => ?_, fun a ha => ?_⟩
  · rw [upd_ne (ne_of_none e fp)]; exact s.sub _ _ e
  · have key : ∀ i, (β ++ [p])[i]? = some a → (β[i]? = some a ∧ i < β.length) ∨ (i = β.length ∧ a = p) := fun i e => by
      by_cases hi : i < β.length
      · rw [List.getElem?_append_left hi] at e; exact .inl ⟨e, hi⟩
      · rw [List.getElem?_append_right (by omega)] at e
        have hl := lt_of_get e
        simp only [List.length_singleton] at hl
        have h0 : i - β.length = 0 := by omega
        rw [h0] at e
        exact .inr ⟨by omega, (Option.some.inj e).symm⟩
    rcases key i e1 with ⟨x1, _⟩ | ⟨x1, y1⟩
    · rcases key j e2 with ⟨x2, _⟩ | ⟨x2, y2⟩
      · exact s.inj i j a x1 x2
      · exact absurd y2 (hne a (List.mem_of_getElem? x1))
    · rcases key j e2 with ⟨x2, _⟩ | ⟨x2, y2⟩
      · exact absurd y1 (hne a (List.mem_of_getElem? x2))
      · omega
  · by_cases hi : i < S.length
    · have hib : i < β.length := by rw [s.len]; exact hi
      rw [List.getElem?_append_left hi] at e1
      rw [List.getElem?_append_left hib] at e2
      obtain ⟨h1, h2⟩ := s.obj i ob a e1 e2
      exact ⟨h1, OR.mono (Same.refl _) (List.prefix_append _ _) (by rw [upd_ne (hne a (List.mem_of_getElem? e2))]) h2⟩
    · have hib : ¬ i < β.length := by rw [s.len]; exact hi
      rw [List.getElem?_append_right (by omega)] at e1 e2
      have hl := lt_of_get e1
      simp only [List.length_singleton] at hl
      have h0 : i - S.length = 0 := by omega
      have h0' : i - β.length = 0 := by rw [s.len]; exact h0
      rw [h0] at e1
      rw [h0'] at e2
      cases (Option.some.inj e1 : o = ob)
      cases (Option.some.inj e2 : p = a)
      exact ⟨fp, q⟩
  · rcases List.mem_append.mp ha with h1 | h1
    · rw [upd_ne (hne a h1)]; exact s.fresh a h1
    · have : a = p := by simpa using h1
      subst this
      rw [upd_same]; simp
/-- an object of the store changed -/
theorem Sim.put (s : Sim K cA F β S H) {k : Nat} {a : Addr} {o : Ob} {u : HO} (hk : k < S.length) (ha : β[k]? = some a) (fa : F a = none) (q : OR K F β cA (upd H a u) o a) : Sim K cA F β (S.set k o) (upd H a u) := by
  refine ⟨fun b v e => ?_, by simp [s.len], s.inj, fun i ob b e1 e2 => ?_, fun b hb => ?_⟩
  · rw [upd_ne (ne_of_none e fa)]; exact s.sub _ _ e
  · by_cases hi : k = i
    · subst hi
      rw [List.getElem?_set_self hk] at e1
      cases (Option.some.inj e1 : o = ob)
      rw [ha] at e2
      cases (Option.some.inj e2 : a = b)
      exact ⟨fa, q⟩
    · rw [List.getElem?_set_ne hi] at e1
      obtain ⟨h1, h2⟩ := s.obj i ob b e1 e2
      have hb : b ≠ a := fun z => hi (s.inj k i a ha (z ▸ e2))
      exact ⟨h1, OR.mono (Same.refl _) (List.prefix_refl _) (by rw [upd_ne hb]) h2⟩
  · by_cases hba : b = a
    · subst hba; rw [upd_same]; simp
    · rw [upd_ne hba]; exact s.fresh b hb
end
end AM
end

section
set_option linter.all false
set_option maxRecDepth 100000
set_option maxHeartbeats 4000000
/-! AM, third part: weaker ends; calls. -/
namespace AM
open PySem L2

section
variable {S : Sto} {P P' : PV} (hP : ∀ v S, P v S → P' v S)
include hP
theorem inO_mono {neg : Bool} {x : Va} {k : Nat} {o : Ob} (h : inO S neg x k o P) : inO S neg x k o P' := by
  unfold inO at h ⊢
  split at h <;> (revert h; repeat' first | exact False.elim | exact hP _ _ | refine Exists.imp fun _ => ?_ | refine And.imp_right ?_)
theorem lenO_mono {o : Ob} (h : lenO o S P) : lenO o S P' := by
  unfold lenO at h ⊢
  split at h <;> (revert h; repeat' first | exact False.elim | exact hP _ _ | refine Exists.imp fun _ => ?_ | refine And.imp_right ?_)
theorem subO_mono {o : Ob} {y : Va} (h : subO o y S P) : subO o y S P' := by
  unfold subO at h ⊢
  split at h <;> (revert h; repeat' first | exact False.elim | exact hP _ _ | refine Exists.imp fun _ => ?_ | refine And.imp_right ?_)
theorem listO_mono {o : Ob} (h : listO o S P) : listO o S P' := by
  unfold listO at h ⊢
  split at h <;> (revert h; repeat' first | exact False.elim | exact hP _ _ | refine Exists.imp fun _ => ?_ | refine And.imp_right ?_)
theorem wCat_mono {x y : Va} (h : wCat x y S P) : wCat x y S P' := by
  unfold wCat at h ⊢
  (revert h; repeat' first | exact False.elim | exact hP _ _ | exact inO_mono hP | exact lenO_mono hP | exact subO_mono hP | exact listO_mono hP | exact fun q m a b => hP _ _ (q m a b) | exact fun q m a b => hP _ _ (q m a b) | refine Or.imp ?_ ?_ | refine Exists.imp fun _ => ?_ | refine And.imp_right ?_)
theorem wBin_mono {op : Bop} {x y : Va} (h : wBin op x y S P) : wBin op x y S P' := by
  unfold wBin at h ⊢
  split at h <;> first | exact h.elim | exact wCat_mono hP h | (revert h; repeat' first | exact False.elim | exact hP _ _ | exact inO_mono hP | exact lenO_mono hP | exact subO_mono hP | exact listO_mono hP | exact fun q m a b => hP _ _ (q m a b) | exact fun q m a b => hP _ _ (q m a b) | refine Or.imp ?_ ?_ | refine Exists.imp fun _ => ?_ | refine And.imp_right ?_)
theorem wNeg_mono {x : Va} (h : wNeg x S P) : wNeg x S P' := by
  unfold wNeg at h ⊢
  split at h <;> (revert h; repeat' first | exact False.elim | exact hP _ _ | exact inO_mono hP | exact lenO_mono hP | exact subO_mono hP | exact listO_mono hP | exact fun q m a b => hP _ _ (q m a b) | exact fun q m a b => hP _ _ (q m a b) | refine Or.imp ?_ ?_ | refine Exists.imp fun _ => ?_ | refine And.imp_right ?_)
theorem wCmp_mono {op : Cop} {x y : Va} (h : wCmp op x y S P) : wCmp op x y S P' := by
  unfold wCmp at h ⊢
  split at h
  all_goals first | exact h.elim | (rcases h with (⟨h1, h2⟩ | ⟨h1, h2⟩) | ⟨d, e, h1, h2, h3, h4, h5⟩; exact .inl (.inl ⟨h1, hP _ _ h2⟩); exact .inl (.inr ⟨h1, hP _ _ h2⟩); exact .inr ⟨d, e, h1, h2, h3, h4, hP _ _ h5⟩) | skip
  all_goals (revert h; repeat' first | exact False.elim | exact hP _ _ | exact inO_mono hP | exact lenO_mono hP | exact subO_mono hP | exact listO_mono hP | exact fun q m a b => hP _ _ (q m a b) | exact fun q m a b => hP _ _ (q m a b) | refine Or.imp ?_ ?_ | refine Exists.imp fun _ => ?_ | refine And.imp_right ?_)
theorem wLen_mono {x : Va} (h : wLen x S P) : wLen x S P' := by
  unfold wLen at h ⊢
  split at h <;> (revert h; repeat' first | exact False.elim | exact hP _ _ | exact inO_mono hP | exact lenO_mono hP | exact subO_mono hP | exact listO_mono hP | exact fun q m a b => hP _ _ (q m a b) | exact fun q m a b => hP _ _ (q m a b) | refine Or.imp ?_ ?_ | refine Exists.imp fun _ => ?_ | refine And.imp_right ?_)
theorem wAbs_mono {x : Va} (h : wAbs x S P) : wAbs x S P' := by
  unfold wAbs at h ⊢
  split at h <;> (revert h; repeat' first | exact False.elim | exact hP _ _ | exact inO_mono hP | exact lenO_mono hP | exact subO_mono hP | exact listO_mono hP | exact fun q m a b => hP _ _ (q m a b) | exact fun q m a b => hP _ _ (q m a b) | refine Or.imp ?_ ?_ | refine Exists.imp fun _ => ?_ | refine And.imp_right ?_)
theorem wSub_mono {x y : Va} (h : wSub x y S P) : wSub x y S P' := by
  unfold wSub at h ⊢
  split at h <;> (revert h; repeat' first | exact False.elim | exact hP _ _ | exact inO_mono hP | exact lenO_mono hP | exact subO_mono hP | exact listO_mono hP | exact fun q m a b => hP _ _ (q m a b) | exact fun q m a b => hP _ _ (q m a b) | refine Or.imp ?_ ?_ | refine Exists.imp fun _ => ?_ | refine And.imp_right ?_)
theorem wSlice_mono {x : Va} {lo hi : Option Int} (h : wSlice x lo hi S P) : wSlice x lo hi S P' := by
  unfold wSlice at h ⊢
  split at h <;> (revert h; repeat' first | exact False.elim | exact hP _ _ | exact inO_mono hP | exact lenO_mono hP | exact subO_mono hP | exact listO_mono hP | exact fun q m a b => hP _ _ (q m a b) | exact fun q m a b => hP _ _ (q m a b) | refine Or.imp ?_ ?_ | refine Exists.imp fun _ => ?_ | refine And.imp_right ?_)
theorem wBlt_mono {f : Bf} {vs : List Va} (h : wBlt f vs S P) : wBlt f vs S P' := by
  unfold wBlt at h ⊢
  split at h <;> (revert h; repeat' first | exact False.elim | exact hP _ _ | exact inO_mono hP | exact lenO_mono hP | exact subO_mono hP | exact listO_mono hP | exact fun q m a b => hP _ _ (q m a b) | exact fun q m a b => hP _ _ (q m a b) | refine Or.imp ?_ ?_ | refine Exists.imp fun _ => ?_ | refine And.imp_right ?_)
theorem wMth_mono {m : Mf} {o : Va} {vs : List Va} (h : wMth m o vs S P) : wMth m o vs S P' := by
  unfold wMth at h ⊢
  split at h <;> (revert h; repeat' first | exact False.elim | exact hP _ _ | exact inO_mono hP | exact lenO_mono hP | exact subO_mono hP | exact listO_mono hP | exact fun q m a b => hP _ _ (q m a b) | exact fun q m a b => hP _ _ (q m a b) | refine Or.imp ?_ ?_ | refine Exists.imp fun _ => ?_ | refine And.imp_right ?_)
end
section
variable {S : Sto} {P P' : PI_} (hP : ∀ xs G S, P xs G S → P' xs G S)
include hP
theorem wSeq_mono {x : Va} (h : wSeq x S P) : wSeq x S P' := by
  unfold wSeq at h ⊢
  split at h <;> (revert h; repeat' first | exact False.elim | exact hP _ _ _ | refine Exists.imp fun _ => ?_ | refine And.imp_right ?_)
theorem wLst_mono {x : Va} (h : wLst x S P) : wLst x S P' := by
  unfold wLst at h ⊢
  split at h <;> (revert h; repeat' first | exact False.elim | exact hP _ _ _ | refine Exists.imp fun _ => ?_ | refine And.imp_right ?_)
end
theorem cpL_mono {bind : Va → Sto → Option Env} {t : Env → Sto → (Bool → Sto → Prop) → Prop} {e : Env → Sto → PV → Prop} {G : Sto → Prop} {d : Nat} {P P' : PV}
    (ht : ∀ Γ S P P', (∀ k S, P k S → P' k S) → t Γ S P → t Γ S P') (he : ∀ Γ S (P P' : PV), (∀ v S, P v S → P' v S) → e Γ S P → e Γ S P') (hP : ∀ v S, P v S → P' v S) :
    ∀ xs S, cpL bind t e G d P xs S → cpL bind t e G d P' xs S
  | [], S, h => hP _ _ h
  | x :: xs, S, ⟨Γ1, h1, h2⟩ => ⟨Γ1, h1, ht _ _ _ _ (fun b S2 q => by
      cases b with
      | true => exact he _ _ _ _ (fun v S3 ⟨acc, q1, q2, q3, q4⟩ => ⟨acc, q1, q2, q3, cpL_mono ht he hP xs _ q4⟩) q
      | false => exact ⟨q.1, cpL_mono ht he hP xs _ q.2⟩) h2⟩

def OrcMono (C : Orc) : Prop := ∀ f vs S P P' E E', (∀ v S, P v S → P' v S) → (∀ x S, E x S → E' x S) → C.run f vs S P E → C.run f vs S P' E'
section
variable {C : Orc} (hC : OrcMono C)
include hC
mutual
theorem W_mono : ∀ (m : Ex) (Γ : Env) (S : Sto) (P P' : PV) (E E' : PX), (∀ v S, P v S → P' v S) → (∀ x S, E x S → E' x S) → W C m Γ S P E → W C m Γ S P' E'
  | .var i, Γ, S, P, P', E, E', hP, hE, ⟨v, e, q⟩ => ⟨v, e, hP _ _ q⟩
  | .int i, Γ, S, P, P', E, E', hP, hE, h => hP _ _ h
  | .bl b, Γ, S, P, P', E, E', hP, hE, h => hP _ _ h
  | .non, Γ, S, P, P', E, E', hP, hE, h => hP _ _ h
  | .str x, Γ, S, P, P', E, E', hP, hE, h => hP _ _ h
  | .glob x, Γ, S, P, P', E, E', hP, hE, ⟨v, e, h⟩ => ⟨v, e, hP _ _ h⟩
  | .tup es, Γ, S, P, P', E, E', hP, hE, h => WL_mono es Γ S _ _ E E' (fun vs S ⟨h1, h2⟩ => ⟨h1, hP _ _ h2⟩) hE h
  | .lst es, Γ, S, P, P', E, E', hP, hE, h => WL_mono es Γ S _ _ E E' (fun vs S ⟨h1, h2⟩ => ⟨h1, hP _ _ h2⟩) hE h
  | .bin op a b, Γ, S, P, P', E, E', hP, hE, h => W_mono a Γ S _ _ E E' (fun x S1 h1 => W_mono b Γ S1 _ _ E E' (fun y S2 h2 => wBin_mono hP h2) hE h1) hE h
  | .neg a, Γ, S, P, P', E, E', hP, hE, h => W_mono a Γ S _ _ E E' (fun x S1 h1 => wNeg_mono hP h1) hE h
  | .cmp op a b, Γ, S, P, P', E, E', hP, hE, h => W_mono a Γ S _ _ E E' (fun x S1 h1 => W_mono b Γ S1 _ _ E E' (fun y S2 h2 => wCmp_mono hP h2) hE h1) hE h
  | .isN a, Γ, S, P, P', E, E', hP, hE, h => W_mono a Γ S _ _ E E' (fun x S1 h1 => hP _ _ h1) hE h
  | .notN a, Γ, S, P, P', E, E', hP, hE, h => W_mono a Γ S _ _ E E' (fun x S1 h1 => hP _ _ h1) hE h
  | .lrev a, Γ, S, P, P', E, E', hP, hE, h => W_mono a Γ S _ _ E E' (fun x S1 ⟨xs, h1, h2⟩ => ⟨xs, h1, hP _ _ h2⟩) hE h
  | .chain op op' a b c, Γ, S, P, P', E, E', hP, hE, h => W_mono a Γ S _ _ E E' (fun x S1 h1 => W_mono b Γ S1 _ _ E E' (fun y S2 h2 => wCmp_mono (fun z S3 ⟨k, e, h3⟩ => ⟨k, e, by
      cases k with
      | true => exact W_mono c Γ S3 _ _ E E' (fun u S4 h4 => wCmp_mono hP h4) hE h3
      | false => exact hP _ _ h3⟩) h2) hE h1) hE h
  | .tst t, Γ, S, P, P', E, E', hP, hE, h => WB_mono t Γ S P P' E E' hP hE h
  | .ite t a b, Γ, S, P, P', E, E', hP, hE, h => WT_mono t Γ S _ _ E E' (fun k S1 h1 => by
      cases k with
      | true => exact W_mono a Γ S1 P P' E E' hP hE h1
      | false => exact W_mono b Γ S1 P P' E E' hP hE h1) hE h
  | .call f es, Γ, S, P, P', E, E', hP, hE, h => WL_mono es Γ S _ _ E E' (fun vs S h1 => hC _ _ _ _ _ _ _ hP hE h1) hE h
  | .len a, Γ, S, P, P', E, E', hP, hE, h => W_mono a Γ S _ _ E E' (fun x S1 h1 => wLen_mono hP h1) hE h
  | .abs a, Γ, S, P, P', E, E', hP, hE, h => W_mono a Γ S _ _ E E' (fun x S1 h1 => wAbs_mono hP h1) hE h
  | .isc a x, Γ, S, P, P', E, E', hP, hE, h => W_mono a Γ S _ _ E E' (fun v S1 ⟨k, h1, ob, h2, b, h3, h4⟩ => ⟨k, h1, ob, h2, b, h3, hP _ _ h4⟩) hE h
  | .isi a t, Γ, S, P, P', E, E', hP, hE, h => W_mono a Γ S _ _ E E' (fun x S1 ⟨b, h1, h2⟩ => ⟨b, h1, hP _ _ h2⟩) hE h
  | .sub a i, Γ, S, P, P', E, E', hP, hE, h => W_mono a Γ S _ _ E E' (fun x S1 h1 => W_mono i Γ S1 _ _ E E' (fun y S2 h2 => wSub_mono hP h2) hE h1) hE h
  | .slice a lo hi, Γ, S, P, P', E, E', hP, hE, h => W_mono a Γ S _ _ E E' (fun x S1 h1 => WOe_mono lo Γ S1 _ _ E E' (fun l S2 h2 => WOe_mono hi Γ S2 _ _ E E' (fun r S3 h3 => wSlice_mono hP h3) hE h2) hE h1) hE h
  | .blt f es, Γ, S, P, P', E, E', hP, hE, h => WL_mono es Γ S _ _ E E' (fun vs S1 h1 => wBlt_mono hP h1) hE h
  | .mth m o es, Γ, S, P, P', E, E', hP, hE, h => W_mono o Γ S _ _ E E' (fun x S1 ⟨h0, h1⟩ => ⟨h0, WL_mono es Γ S1 _ _ E E' (fun vs S2 h2 => wMth_mono hP h2) hE h1⟩) hE h
  | .comp own elt tg it cond, Γ, S, P, P', E, E', hP, hE, h => WI_mono it Γ S _ _ E E' (fun xs G S1 ⟨h0, h1⟩ => ⟨h0, cpL_mono (fun Γ S P P' hp q => WT0_mono cond Γ S P P' hp q) (fun Γ S P P' hp q => W_mono elt Γ S P P' _ _ hp (fun _ _ z => z) q) hP xs _ h1⟩) hE h
  | .fld o f, Γ, S, P, P', E, E', hP, hE, h => W_mono o Γ S _ _ E E' (fun x S1 ⟨k, e, ob, e2, v, e3, h1⟩ => ⟨k, e, ob, e2, v, e3, hP _ _ h1⟩) hE h
  | .mcall o m es, Γ, S, P, P', E, E', hP, hE, h => W_mono o Γ S _ _ E E' (fun x S1 ⟨k, e, ob, e2, v, e3, h1⟩ => ⟨k, e, ob, e2, v, e3, WL_mono es Γ S1 _ _ E E' (fun vs S2 h2 => hC _ _ _ _ _ _ _ hP hE h2) hE h1⟩) hE h
  | .make c es, Γ, S, P, P', E, E', hP, hE, ⟨key, e1, h⟩ => ⟨key, e1, WL_mono es Γ S _ _ E E' (fun vs S1 h2 => hC _ _ _ _ _ _ _ (fun v S2 ⟨e3, h3⟩ => ⟨e3, hP _ _ h3⟩) hE h2) hE h⟩
  | .make0 c, Γ, S, P, P', E, E', hP, hE, ⟨e1, h⟩ => ⟨e1, hP _ _ h⟩
  | .dsp es, Γ, S, P, P', E, E', hP, hE, h => WL_mono es Γ _ _ _ E E' (fun vs S1 ⟨kvs, e1, e2, e3, h1⟩ => ⟨kvs, e1, e2, e3, hP _ _ h1⟩) hE h
  | .get1 o k, Γ, S, P, P', E, E', hP, hE, h => W_mono o Γ S _ _ E E' (fun x S1 ⟨h0, h1⟩ => ⟨h0, W_mono k Γ S1 _ _ E E' (fun y S2 ⟨kvs, e1, kk, e2, h2⟩ => ⟨kvs, e1, kk, e2, hP _ _ h2⟩) hE h1⟩) hE h
  | .get2 o k d, Γ, S, P, P', E, E', hP, hE, h => W_mono o Γ S _ _ E E' (fun x S1 ⟨h0, h1⟩ => ⟨h0, W_mono k Γ S1 _ _ E E' (fun y S2 h2 => W_mono d Γ S2 _ _ E E' (fun z S3 ⟨kvs, e1, kk, e2, h3⟩ => ⟨kvs, e1, kk, e2, hP _ _ h3⟩) hE h2) hE h1⟩) hE h
  | .gget x k d, Γ, S, P, P', E, E', hP, hE, ⟨l, e, h⟩ => ⟨l, e, W_mono k Γ S _ _ E E' (fun y S1 h1 => W_mono d Γ S1 _ _ E E' (fun z S2 ⟨s, e1, o, e2, h3⟩ => ⟨s, e1, o, e2, hP _ _ h3⟩) hE h1) hE h⟩
  | .dpop1 o k, Γ, S, P, P', E, E', hP, hE, h => W_mono o Γ S _ _ E E' (fun x S1 ⟨h0, h1⟩ => ⟨h0, W_mono k Γ S1 _ _ E E' (fun y S2 ⟨n, e0, kvs, e1, kk, e2, v, e3, h2⟩ => ⟨n, e0, kvs, e1, kk, e2, v, e3, hP _ _ h2⟩) hE h1⟩) hE h
  | .dpop2 o k d, Γ, S, P, P', E, E', hP, hE, h => W_mono o Γ S _ _ E E' (fun x S1 ⟨h0, h1⟩ => ⟨h0, W_mono k Γ S1 _ _ E E' (fun y S2 h2 => W_mono d Γ S2 _ _ E E' (fun z S3 ⟨n, e0, kvs, e1, kk, e2, h3⟩ => ⟨n, e0, kvs, e1, kk, e2, h3.elim (fun ⟨v, e3, h4⟩ => .inl ⟨v, e3, hP _ _ h4⟩) (fun ⟨e3, h4⟩ => .inr ⟨e3, hP _ _ h4⟩)⟩) hE h2) hE h1⟩) hE h
theorem WOe_mono : ∀ (m : Oe) (Γ : Env) (S : Sto) (P P' : Option Int → Sto → Prop) (E E' : PX), (∀ v S, P v S → P' v S) → (∀ x S, E x S → E' x S) → WOe C m Γ S P E → WOe C m Γ S P' E'
  | .none, Γ, S, P, P', E, E', hP, hE, h => hP _ _ h
  | .some e, Γ, S, P, P', E, E', hP, hE, h => W_mono e Γ S _ _ E E' (fun v S1 ⟨i, e1, h1⟩ => ⟨i, e1, hP _ _ h1⟩) hE h
theorem WI_mono : ∀ (m : It) (Γ : Env) (S : Sto) (P P' : PI_) (E E' : PX), (∀ xs G S, P xs G S → P' xs G S) → (∀ x S, E x S → E' x S) → WI C m Γ S P E → WI C m Γ S P' E'
  | .seq e, Γ, S, P, P', E, E', hP, hE, h => W_mono e Γ S _ _ E E' (fun v S1 h1 => wSeq_mono hP h1) hE h
  | .range1 a, Γ, S, P, P', E, E', hP, hE, h => W_mono a Γ S _ _ E E' (fun v S1 ⟨i, e1, h1, h2, h3⟩ => ⟨i, e1, h1, h2, hP _ _ _ h3⟩) hE h
  | .range2 a b, Γ, S, P, P', E, E', hP, hE, h => W_mono a Γ S _ _ E E' (fun v S1 h1 => W_mono b Γ S1 _ _ E E' (fun u S2 ⟨i, e1, j, e2, h2, h3⟩ => ⟨i, e1, j, e2, h2, hP _ _ _ h3⟩) hE h1) hE h
  | .enum e, Γ, S, P, P', E, E', hP, hE, h => W_mono e Γ S _ _ E E' (fun v S1 h1 => wLst_mono (fun _ _ _ z => hP _ _ _ z) h1) hE h
  | .zip a b, Γ, S, P, P', E, E', hP, hE, h => W_mono a Γ S _ _ E E' (fun v S1 h1 => W_mono b Γ S1 _ _ E E' (fun u S2 h2 => wLst_mono (fun _ _ _ z => wLst_mono (fun _ _ _ z => hP _ _ _ z) z) h2) hE h1) hE h
  | .rev e, Γ, S, P, P', E, E', hP, hE, h => W_mono e Γ S _ _ E E' (fun v S1 h1 => wLst_mono (fun _ _ _ z => hP _ _ _ z) h1) hE h
theorem WT0_mono : ∀ (m : Tes0) (Γ : Env) (S : Sto) (P P' : Bool → Sto → Prop), (∀ v S, P v S → P' v S) → WT0 C m Γ S P → WT0 C m Γ S P'
  | .none, Γ, S, P, P', hP, h => hP _ _ h
  | .some t, Γ, S, P, P', hP, h => WT_mono t Γ S _ _ _ _ hP (fun _ _ z => z) h
theorem WT_mono : ∀ (m : Te) (Γ : Env) (S : Sto) (P P' : Bool → Sto → Prop) (E E' : PX), (∀ v S, P v S → P' v S) → (∀ x S, E x S → E' x S) → WT C m Γ S P E → WT C m Γ S P' E'
  | .val e, Γ, S, P, P', E, E', hP, hE, h => W_mono e Γ S _ _ E E' (fun v S1 ⟨b, h1, h2⟩ => ⟨b, h1, hP _ _ h2⟩) hE h
  | .not t, Γ, S, P, P', E, E', hP, hE, h => WT_mono t Γ S _ _ E E' (fun v S1 h1 => hP _ _ h1) hE h
  | .and ts, Γ, S, P, P', E, E', hP, hE, h => WA_mono ts Γ S _ _ E E' hP hE h
  | .or ts, Γ, S, P, P', E, E', hP, hE, h => WO_mono ts Γ S _ _ E E' hP hE h
theorem WA_mono : ∀ (m : Tes) (Γ : Env) (S : Sto) (P P' : Bool → Sto → Prop) (E E' : PX), (∀ v S, P v S → P' v S) → (∀ x S, E x S → E' x S) → WA C m Γ S P E → WA C m Γ S P' E'
  | .one t, Γ, S, P, P', E, E', hP, hE, h => WT_mono t Γ S _ _ E E' hP hE h
  | .cons t ts, Γ, S, P, P', E, E', hP, hE, h => WT_mono t Γ S _ _ E E' (fun k S1 h1 => by
      cases k with
      | true => exact WA_mono ts Γ S1 P P' E E' hP hE h1
      | false => exact hP _ _ h1) hE h
theorem WO_mono : ∀ (m : Tes) (Γ : Env) (S : Sto) (P P' : Bool → Sto → Prop) (E E' : PX), (∀ v S, P v S → P' v S) → (∀ x S, E x S → E' x S) → WO C m Γ S P E → WO C m Γ S P' E'
  | .one t, Γ, S, P, P', E, E', hP, hE, h => WT_mono t Γ S _ _ E E' hP hE h
  | .cons t ts, Γ, S, P, P', E, E', hP, hE, h => WT_mono t Γ S _ _ E E' (fun k S1 h1 => by
      cases k with
      | false => exact WO_mono ts Γ S1 P P' E E' hP hE h1
      | true => exact hP _ _ h1) hE h
theorem WB_mono : ∀ (m : Te) (Γ : Env) (S : Sto) (P P' : PV) (E E' : PX), (∀ v S, P v S → P' v S) → (∀ x S, E x S → E' x S) → WB C m Γ S P E → WB C m Γ S P' E'
  | .val e, Γ, S, P, P', E, E', hP, hE, h => W_mono e Γ S _ _ E E' hP hE h
  | .not t, Γ, S, P, P', E, E', hP, hE, h => WB_mono t Γ S _ _ E E' (fun v S1 ⟨b, e, h1⟩ => ⟨b, e, hP _ _ h1⟩) hE h
  | .and ts, Γ, S, P, P', E, E', hP, hE, h => WBA_mono ts Γ S _ _ E E' hP hE h
  | .or ts, Γ, S, P, P', E, E', hP, hE, h => WBO_mono ts Γ S _ _ E E' hP hE h
theorem WBA_mono : ∀ (m : Tes) (Γ : Env) (S : Sto) (P P' : PV) (E E' : PX), (∀ v S, P v S → P' v S) → (∀ x S, E x S → E' x S) → WBA C m Γ S P E → WBA C m Γ S P' E'
  | .one t, Γ, S, P, P', E, E', hP, hE, h => WB_mono t Γ S _ _ E E' hP hE h
  | .cons t ts, Γ, S, P, P', E, E', hP, hE, h => WB_mono t Γ S _ _ E E' (fun k S1 ⟨b, e, h1⟩ => ⟨b, e, by
      cases b with
      | true => exact WBA_mono ts Γ S1 P P' E E' hP hE h1
      | false => exact hP _ _ h1⟩) hE h
theorem WBO_mono : ∀ (m : Tes) (Γ : Env) (S : Sto) (P P' : PV) (E E' : PX), (∀ v S, P v S → P' v S) → (∀ x S, E x S → E' x S) → WBO C m Γ S P E → WBO C m Γ S P' E'
  | .one t, Γ, S, P, P', E, E', hP, hE, h => WB_mono t Γ S _ _ E E' hP hE h
  | .cons t ts, Γ, S, P, P', E, E', hP, hE, h => WB_mono t Γ S _ _ E E' (fun k S1 ⟨b, e, h1⟩ => ⟨b, e, by
      cases b with
      | false => exact WBO_mono ts Γ S1 P P' E E' hP hE h1
      | true => exact hP _ _ h1⟩) hE h
theorem WL_mono : ∀ (m : Exs) (Γ : Env) (S : Sto) (P P' : PL) (E E' : PX), (∀ v S, P v S → P' v S) → (∀ x S, E x S → E' x S) → WL C m Γ S P E → WL C m Γ S P' E'
  | .nil, Γ, S, P, P', E, E', hP, hE, h => hP _ _ h
  | .cons e es, Γ, S, P, P', E, E', hP, hE, h => W_mono e Γ S _ _ E E' (fun v S1 h1 => WL_mono es Γ S1 _ _ E E' (fun vs S2 h2 => hP _ _ h2) hE h1) hE h
end

structure DMono (D D' : AEnds) : Prop where
  nx : ∀ Γ S, D.nx Γ S → D'.nx Γ S
  rt : ∀ v S, D.rt v S → D'.rt v S
  bk : ∀ Γ S, D.bk Γ S → D'.bk Γ S
  ct : ∀ Γ S, D.ct Γ S → D'.ct Γ S
  ex : ∀ x Γ S, D.ex x Γ S → D'.ex x Γ S

omit hC in
theorem whN_mono {t t' : Env → Sto → (Bool → Sto → Prop) → Prop} {b b' : PE_ → Env → Sto → Prop} {nx nx' : PE_}
    (ht : ∀ Γ S P P', (∀ k S, P k S → P' k S) → t Γ S P → t' Γ S P') (hb : ∀ Γ S (N N' : PE_), (∀ Γ S, N Γ S → N' Γ S) → b N Γ S → b' N' Γ S) (hn : ∀ Γ S, nx Γ S → nx' Γ S) :
    ∀ n Γ S, whN t b nx n Γ S → whN t' b' nx' n Γ S
  | 0, _, _, h => h.elim
  | n + 1, Γ, S, h => ht Γ S _ _ (fun k S1 h1 => by
      cases k with
      | true => exact hb Γ S1 _ _ (fun Γ2 S2 h2 => whN_mono ht hb hn n Γ2 S2 h2) h1
      | false => exact hn _ _ h1) h
omit hC in
theorem frL_mono {bind : Va → Env → Sto → Option Env} {b b' : PE_ → Env → Sto → Prop} {G : Sto → Prop} {nx nx' : PE_}
    (hb : ∀ Γ S (N N' : PE_), (∀ Γ S, N Γ S → N' Γ S) → b N Γ S → b' N' Γ S) (hn : ∀ Γ S, nx Γ S → nx' Γ S) : ∀ xs Γ S, frL bind b G nx xs Γ S → frL bind b' G nx' xs Γ S
  | [], Γ, S, h => hn _ _ h
  | x :: xs, Γ, S, ⟨Γ1, h1, h2⟩ => ⟨Γ1, h1, hb _ _ _ _ (fun Γ' S' ⟨q1, q2⟩ => ⟨q1, frL_mono hb hn xs Γ' S' q2⟩) h2⟩
mutual
theorem WS_mono : ∀ (m : Sm) (D D' : AEnds) (Γ : Env) (S : Sto), DMono D D' → WS C m D Γ S → WS C m D' Γ S
  | .set i e, D, D', Γ, S, d, h => W_mono hC e Γ S _ _ _ _ (fun v S1 h1 => d.nx _ _ h1) (fun x S1 h1 => d.ex _ _ _ h1) h
  | .ret e, D, D', Γ, S, d, h => W_mono hC e Γ S _ _ _ _ d.rt (fun x S1 h1 => d.ex _ _ _ h1) h
  | .retN, D, D', Γ, S, d, h => d.rt _ _ h
  | .pass, D, D', Γ, S, d, h => d.nx _ _ h
  | .brk, D, D', Γ, S, d, h => d.bk _ _ h
  | .cont, D, D', Γ, S, d, h => d.ct _ _ h
  | .drop e, D, D', Γ, S, d, h => W_mono hC e Γ S _ _ _ _ (fun v S1 h1 => d.nx _ _ h1) (fun x S1 h1 => d.ex _ _ _ h1) h
  | .ite t a b, D, D', Γ, S, d, h => WT_mono hC t Γ S _ _ _ _ (fun k S1 h1 => by
      cases k with
      | true => exact WSs_mono a D D' Γ S1 d h1
      | false => exact WSs_mono b D D' Γ S1 d h1) (fun x S1 h1 => d.ex _ _ _ h1) h
  | .whil t b, D, D', Γ, S, d, ⟨n, h⟩ => ⟨n, whN_mono (fun Γ S P P' hp q => WT_mono hC t Γ S P P' _ _ hp (fun x S1 h1 => d.ex _ _ _ h1) q)
      (fun Γ S N N' hN q => WSs_mono b { D with nx := N, ct := N, bk := D.nx } { D' with nx := N', ct := N', bk := D'.nx } Γ S ⟨hN, d.rt, d.nx, hN, d.ex⟩ q) d.nx n Γ S h⟩
  | .raise x, D, D', Γ, S, d, h => d.ex _ _ _ h
  | .asg tg e, D, D', Γ, S, d, h => W_mono hC e Γ S _ _ _ _ (fun v S1 ⟨Γ1, e1, h1⟩ => ⟨Γ1, e1, d.nx _ _ h1⟩) (fun x S1 h1 => d.ex _ _ _ h1) h
  | .setSub o i e, D, D', Γ, S, d, h => W_mono hC e Γ S _ _ _ _ (fun v S1 h1 => W_mono hC o Γ S1 _ _ _ _ (fun x S2 h2 => W_mono hC i Γ S2 _ _ _ _ (fun y S3 ⟨k, e1, ob, e2, ob', e3, h3⟩ => ⟨k, e1, ob, e2, ob', e3, d.nx _ _ h3⟩) (fun x S1 h1 => d.ex _ _ _ h1) h2) (fun x S1 h1 => d.ex _ _ _ h1) h1) (fun x S1 h1 => d.ex _ _ _ h1) h
  | .aug i op e, D, D', Γ, S, d, ⟨x, hx, h⟩ => ⟨x, hx, W_mono hC e Γ S _ _ _ _ (fun y S1 ⟨n, e1, m, e2, r, h1, h2⟩ => ⟨n, e1, m, e2, r, h1, d.nx _ _ h2⟩) (fun x S1 h1 => d.ex _ _ _ h1) h⟩
  | .setC i own elt tg it cond, D, D', Γ, S, d, h => WI_mono hC it Γ S _ _ _ _ (fun xs G S1 ⟨h0, h1⟩ => ⟨h0, cpL_mono (fun Γ S P P' hp q => WT0_mono hC cond Γ S P P' hp q) (fun Γ S P P' hp q => W_mono hC elt Γ S P P' _ _ hp (fun _ _ z => z) q) (fun v S2 z => d.nx _ _ z) xs _ h1⟩) (fun x S1 h1 => d.ex _ _ _ h1) h
  | .for_ tg it b, D, D', Γ, S, d, h => WI_mono hC it Γ S _ _ _ _ (fun xs G S1 ⟨h0, h1⟩ => ⟨h0, frL_mono (fun Γ S N N' hN q => WSs_mono b { D with nx := N, ct := N, bk := D.nx } { D' with nx := N', ct := N', bk := D'.nx } Γ S ⟨hN, d.rt, d.nx, hN, d.ex⟩ q) d.nx xs _ _ h1⟩) (fun x S1 h1 => d.ex _ _ _ h1) h
  | .setFld o f e, D, D', Γ, S, d, h => W_mono hC e Γ S _ _ _ _ (fun v S1 h1 => W_mono hC o Γ S1 _ _ _ _ (fun x S2 ⟨k, e1, ob, e2, ob', e3, h2⟩ => ⟨k, e1, ob, e2, ob', e3, d.nx _ _ h2⟩) (fun x S1 h1 => d.ex _ _ _ h1) h1) (fun x S1 h1 => d.ex _ _ _ h1) h
  | .augFld o f op e, D, D', Γ, S, d, ⟨h0, h⟩ => ⟨h0, W_mono hC o Γ S _ _ _ _ (fun x S1 ⟨k, e1, ob, e2, u, e3, h1⟩ => ⟨k, e1, ob, e2, u, e3, W_mono hC e Γ S1 _ _ _ _ (fun y S2 ⟨n, e4, m, e5, ob2, e6, e7, ob', e8, h2⟩ => ⟨n, e4, m, e5, ob2, e6, e7, ob', e8, d.nx _ _ h2⟩) (fun x S1 h1 => d.ex _ _ _ h1) h1⟩) (fun x S1 h1 => d.ex _ _ _ h1) h⟩
theorem WSs_mono : ∀ (m : Sms) (D D' : AEnds) (Γ : Env) (S : Sto), DMono D D' → WSs C m D Γ S → WSs C m D' Γ S
  | .nil, D, D', Γ, S, d, h => d.nx _ _ h
  | .cons s ss, D, D', Γ, S, d, h => WS_mono s { D with nx := fun Γ S => WSs C ss D Γ S } { D' with nx := fun Γ S => WSs C ss D' Γ S } Γ S ⟨fun Γ1 S1 h1 => WSs_mono ss D D' Γ1 S1 d h1, d.rt, d.bk, d.ct, d.ex⟩ h
end
end

/-! ### calls -/
section
variable (S : Sto) (n : Nat)
mutual
/-- v' is v, with the store's objects from n on taken as they are for good -/
def Fz : Va → Va → Prop
  | v, .non => v = .non
  | v, .bl b => v = .bl b
  | v, .int i => v = .int i
  | v, .str x => v = .str x
  | v, .tup ys => ∃ xs, v = .tup xs ∧ Fzs xs ys
  | v, .lst ys => ∃ xs, (v = .lst xs ∨ ∃ k, v = .loc k ∧ n ≤ k ∧ S[k]? = some (.lst xs)) ∧ Fzs xs ys
  | v, .dct ys => ∃ xs, (v = .dct xs ∨ ∃ k, v = .loc k ∧ n ≤ k ∧ S[k]? = some (.dct xs)) ∧ Fzk xs ys
  | v, .loc k => v = .loc k ∧ k < n
  | v, .scr ns => v = .scr ns
def Fzs : List Va → List Va → Prop
  | vs, [] => vs = []
  | vs, y :: ys => ∃ x xs, vs = x :: xs ∧ Fz x y ∧ Fzs xs ys
def Fzk : List (Key × Va) → List (Key × Va) → Prop
  | vs, [] => vs = []
  | vs, (k, y) :: ys => ∃ x xs, vs = (k, x) :: xs ∧ Fz x y ∧ Fzk xs ys
end
end
section
variable (n : Nat)
mutual
/-- all places of the store in v are below n -/
def Cl : Va → Prop
  | .tup xs => Cls_ xs
  | .lst xs => Cls_ xs
  | .dct xs => Clk xs
  | .loc k => k < n
  | .non => True
  | .bl _ => True
  | .int _ => True
  | .str _ => True
  | .scr _ => True
def Cls_ : List Va → Prop
  | [] => True
  | x :: xs => Cl x ∧ Cls_ xs
def Clk : List (Key × Va) → Prop
  | [] => True
  | (_, x) :: xs => Cl x ∧ Clk xs
end
def Clf : List (Str × Va) → Prop
  | [] => True
  | (_, x) :: xs => Cl n x ∧ Clf xs
def ClO : Ob → Prop
  | .lst xs => Cls_ n xs
  | .dct xs => Clk n xs
  | .ins _ fs => Clf n fs
  | .dead => True
end
/-- S'': the first objects of S', which don't lean on later ones -/
def Cut (S S' S'' : Sto) : Prop := S'' = S' ∨ (S'' = S'.take S.length ∧ S.length ≤ S'.length ∧ ∀ (i : Nat) (o : Ob), i < S.length → S'[i]? = some o → S[i]? = some o ∨ ClO S.length o)
def Shed (S : Sto) (v : Va) (S' : Sto) (v' : Va) (S'' : Sto) : Prop :=
  (v' = v ∧ S'' = S') ∨ ((S'' = S'.take S.length ∧ S.length ≤ S'.length ∧ ∀ (i : Nat) (o : Ob), i < S.length → S'[i]? = some o → S[i]? = some o ∨ ClO S.length o) ∧ Fz S' S.length v v')

/-- the defs (methods as "C.m"), the classes' methods, fields, makers, the constants -/
structure Tab where
  fns : List (Str × Fn)
  mt : List (Str × Str × Str) := []
  na : List (Str × Str) := []
  it : List (Str × Option Str) := []
  gb : List (Str × Va) := []
  ia : List (Str × Str × Bool) := []
  gd : List (Str × List (Str × Option Va)) := []
def Tab.fn (T : Tab) (x : Str) : Option Fn := T.fns.lookup x
instance : CoeFun Tab (fun _ => Str → Option Fn) := ⟨Tab.fn⟩
def Tab.meth (T : Tab) (c m : Str) : Option Str := (T.mt.find? fun p => decide (p.1 = c) && decide (p.2.1 = m)).map (·.2.2)
def Tab.noat (T : Tab) (c f : Str) : Bool := T.na.any fun p => decide (p.1 = c) && decide (p.2 = f)
def Tab.init (T : Tab) (c : Str) : Option (Option Str) := T.it.lookup c
def Tab.glob (T : Tab) (x : Str) : Option Va := T.gb.lookup x
def Tab.isa (T : Tab) (c x : Str) : Option Bool := (T.ia.find? fun p => decide (p.1 = c) && decide (p.2.1 = x)).map (·.2.2)
def Tab.gdct (T : Tab) (x : Str) : Option (List (Str × Option Va)) := T.gd.lookup x
def startA (N : List Str) (as : List Va) : Env := as.map some ++ List.replicate (N.length - as.length) none
def fin (S : Sto) (P : PV) : PV := fun v S' => ∃ v' S'', Shed S v S' v' S'' ∧ P v' S''
def finX (S : Sto) (E : PX) : PX := fun x S' => ∃ S'', Cut S S' S'' ∧ E x S''
def call (T : Tab) : Nat → Str → List Va → Sto → PV → PX → Prop
  | 0, _, _, _, _, _ => False
  | k + 1, f, as, S, P, E => ∃ d, T.fn f = some d ∧ as.length = d.ps.length ∧
      WSs ⟨call T k, T.meth, T.noat, T.init, T.glob, T.isa, T.gdct⟩ d.body { nx := fun _ S' => fin S P .non S', rt := fin S P, ex := fun x _ S' => finX S E x S' } (startA d.N as) S
def orc (T : Tab) (k : Nat) : Orc := ⟨call T k, T.meth, T.noat, T.init, T.glob, T.isa, T.gdct⟩
theorem call_mono (T : Tab) : ∀ k, OrcMono (orc T k)
  | 0 => fun _ _ _ _ _ _ _ _ _ h => h.elim
  | k + 1 => fun f vs S P P' E E' hP hE ⟨d, h1, h2, h⟩ => by
    have f1 : ∀ v S', fin S P v S' → fin S P' v S' := fun v S' ⟨v', S'', q, p⟩ => ⟨v', S'', q, hP _ _ p⟩
    exact ⟨d, h1, h2, WSs_mono (call_mono T k) d.body { nx := fun _ S' => fin S P .non S', rt := fin S P, ex := fun x _ S' => finX S E x S' } { nx := fun _ S' => fin S P' .non S', rt := fin S P', ex := fun x _ S' => finX S E' x S' } _ _ ⟨fun _ _ q => f1 _ _ q, f1, fun _ _ q => q, fun _ _ q => q, fun x _ S' ⟨S'', q, p⟩ => ⟨S'', q, hE _ _ p⟩⟩ h⟩
end AM
end

section
set_option linter.all false
set_option maxRecDepth 100000
set_option maxHeartbeats 4000000
/-! AM, fourth part: the syntax held against the program's text. -/
namespace AM
open PySem L2

def visB (sc : Scope) (x : Str) : Bool := (match sc.names.lookup x with
  | some .local => true | some .cell => true | some .free => true | _ => false) && !(x == ("__debug__" : Str)) && !(x == ("__classdict__" : Str))
def locB (sc : Scope) (x : Str) : Bool := match sc.names.lookup x with
  | some .local => true | some .cell => true | _ => false
def glB (sc : Scope) (x : Str) : Bool := (match sc.names.lookup x with
  | some .globalImplicit => true | _ => false) && !(x == ("__debug__" : Str)) && !(x == ("__name__" : Str))

def bopB : Bop → Operator → Bool
  | .add, .Add => true | .sub, .Sub => true | .mul, .Mult => true | .fdiv, .FloorDiv => true | .mod, .Mod => true | .pow, .Pow => true
  | _, _ => false
def copB : Cop → CmpOp → Bool
  | .eq, .Eq => true | .ne, .NotEq => true | .lt, .Lt => true | .le, .LtE => true | .gt, .Gt => true | .ge, .GtE => true
  | .isin, .In => true | .notin, .NotIn => true | .isb, .Is => true | .nisb, .IsNot => true
  | _, _ => false
def tyN : Ty → Str
  | .int => "int" | .bool => "bool" | .str => "str" | .tuple => "tuple" | .list => "list" | .dict => "dict"
def tyS : Ty → String
  | .int => "int" | .bool => "bool" | .str => "str" | .tuple => "tuple" | .list => "list" | .dict => "dict"

/-- a test of no form of its own -/
def plainT : Expr → Bool
  | .UnaryOp .Not _ _ => false | .BoolOp _ _ _ => false | .IfExp _ _ _ _ => false | .Compare _ _ _ _ => false
  | _ => true
/-- a comparison -/
def isCmp : Ex → Bool
  | .cmp _ _ _ => true | .isN _ => true | .notN _ => true | .chain _ _ _ _ _ => true
  | _ => false
def noStar : Expr → Bool
  | .Starred _ _ => false
  | _ => true
def noSet : Expr → Bool
  | .Set _ _ _ => false
  | _ => true
def noSlice : Expr → Bool
  | .Slice _ _ _ _ => false
  | _ => true

def noTup : Expr → Bool
  | .Tuple _ _ _ => false
  | _ => true
/-- a base of an attribute that is not super() -/
def plainB : Expr → Bool
  | .Name _ _ => true | .Attribute _ _ _ => true | .Subscript _ _ _ => true | .Constant _ _ _ => true | .Call _ (_ :: _) _ _ => true
  | _ => false
def bfN : Bf → Str
  | .list => "list" | .tuple => "tuple" | .sum => "sum" | .max1 => "max" | .min1 => "min" | .max2 => "max" | .min2 => "min" | .sorted => "sorted" | .ord => "ord" | .str => "str" | .int => "int" | .all => "all" | .any => "any" | .dict => "dict"
def mfN : Mf → Str
  | .append => "append" | .pop => "pop" | .extend => "extend" | .insert => "insert" | .join => "join" | .index => "index" | .clear => "clear" | .remove => "remove"
def bfA : Bf → Nat
  | .max2 => 2 | .min2 => 2 | _ => 1
def mfA : Mf → Nat
  | .append => 1 | .pop => 0 | .extend => 1 | .insert => 2 | .join => 1 | .index => 1 | .clear => 0 | .remove => 1

structure Ctx where
  N : List Str
  sc : Scope
  xs : List Str
  fs : List Str
  lc : Str → Bool
/-- within a comprehension -/
def Ctx.inn (c : Ctx) (scope : Scope) : Ctx := ⟨c.N, relS scope c.sc, c.xs, c.fs, locB scope⟩
def ownA (N : List Str) (own : List Nat) : List (Str × Nat) := own.map fun i => (N.getD i "", i)
mutual
def ckG (c : Ctx) : Tg → Expr → Bool
  | .name i, e => (match e with
    | .Name x _ => decide (c.N[i]? = some x) && c.lc x
    | _ => false)
  | .tup ts, e => (match e with
    | .Tuple es _ _ => ckGs c ts es
    | _ => false)
def ckGs (c : Ctx) : Tgs → List Expr → Bool
  | .nil, es => (match es with
    | [] => true
    | _ => false)
  | .cons t ts, es => (match es with
    | e :: r => ckG c t e && noStar e && ckGs c ts r
    | _ => false)
end

def nilX : Exs → Bool
  | .nil => true
  | .cons _ _ => false
mutual
def ckE (c : Ctx) : Ex → Expr → Bool
  | .var i, e => (match e with
    | .Name x _ => decide (c.N[i]? = some x) && visB c.sc x
    | _ => false)
  | .int i, e => (match e with
    | .Constant (.int j) _ _ => decide (i = j)
    | _ => false)
  | .bl b, e => (match e with
    | .Constant (.bool j) _ _ => decide (b = j)
    | _ => false)
  | .non, e => (match e with
    | .Constant .none _ _ => true
    | _ => false)
  | .str x, e => (match e with
    | .Constant (.str y) _ _ => decide (x = y)
    | _ => false)
  | .glob x, e => (match e with
    | .Name y _ => decide (y = x) && glB c.sc y
    | _ => false)
  | .tup es, e => (match e with
    | .Tuple es' _ _ => ckL c es es'
    | _ => false)
  | .lst es, e => (match e with
    | .List es' _ => ckL c es es'
    | _ => false)
  | .bin op a b, e => (match e with
    | .BinOp a' op' b' _ => bopB op op' && ckE c a a' && ckE c b b'
    | _ => false)
  | .neg a, e => (match e with
    | .UnaryOp .USub a' _ => ckE c a a'
    | _ => false)
  | .cmp op a b, e => (match e with
    | .Compare a' [op'] [b'] _ => copB op op' && ckE c a a' && ckE c b b' && noSet b'
    | _ => false)
  | .isN a, e => (match e with
    | .Compare a' [.Is] [.Constant .none _ _] _ => ckE c a a'
    | _ => false)
  | .notN a, e => (match e with
    | .Compare a' [.IsNot] [.Constant .none _ _] _ => ckE c a a'
    | _ => false)
  | .chain op op' a b d, e => (match e with
    | .Compare a' [o1, o2] [b', d'] _ => copB op o1 && copB op' o2 && ckE c a a' && ckE c b b' && ckE c d d' && noSet d'
    | _ => false)
  | .tst t, e => ckT c t e
  | .ite t a b, e => (match e with
    | .IfExp t' a' b' _ => ckT c t t' && ckE c a a' && ckE c b b'
    | _ => false)
  | .call f es, e => (match e with
    | .Call (.Name x _) (e1 :: es') [] _ => decide (x = f) && glB c.sc x && ckL c es (e1 :: es') && c.fs.contains f
    | .Call (.Name x _) [] [] _ => decide (x = f) && glB c.sc x && nilX es && c.fs.contains f
    | _ => false)
  | .len a, e => (match e with
    | .Call (.Name x _) [a'] [] _ => decide (x = "len") && glB c.sc x && ckE c a a' && noStar a'
    | _ => false)
  | .abs a, e => (match e with
    | .Call (.Name x _) [a'] [] _ => decide (x = "abs") && glB c.sc x && ckE c a a' && noStar a'
    | _ => false)
  | .lrev a, e => (match e with
    | .Call (.Name x _) [.Call (.Name y _) [a'] [] _] [] _ => decide (x = "list") && glB c.sc x && decide (y = "reversed") && glB c.sc y && ckE c a a' && noStar a'
    | _ => false)
  | .isi a t, e => (match e with
    | .Call (.Name x _) [a', .Name y _] [] _ => decide (x = "isinstance") && glB c.sc x && decide (y = tyN t) && glB c.sc y && ckE c a a' && noStar a'
    | _ => false)
  | .isc a z, e => (match e with
    | .Call (.Name x _) [a', .Name y _] [] _ => decide (x = "isinstance") && glB c.sc x && decide (y = z) && glB c.sc y && ckE c a a' && noStar a'
    | _ => false)
  | .sub a i, e => (match e with
    | .Subscript a' i' _ => ckE c a a' && ckE c i i' && noSlice i'
    | _ => false)
  | .slice a lo hi, e => (match e with
    | .Subscript a' (.Slice lo' hi' none _) _ => ckE c a a' && ckO c lo lo' && ckO c hi hi'
    | _ => false)
  | .blt f es, e => (match e with
    | .Call (.Name x _) (e1 :: es') [] _ => decide (x = bfN f) && glB c.sc x && ckL c es (e1 :: es') && decide (es'.length + 1 = bfA f)
    | _ => false)
  | .mth m o es, e => (match e with
    | .Call (.Attribute o' nm apos) es' [] cpos => decide (nm = mfN m) && ckE c o o' && ckL c es es' && (apos.endLine == cpos.line) && plainB o' && decide (es'.length = mfA m)
    | _ => false)
  | .comp own elt tg it cond, e => (match e with
    | .ListComp elt' [⟨tg', it', ifs, 0⟩] scope _ => blkC c.N c.sc scope (ownA c.N own) && ckI c it tg' it' && ckG (c.inn scope) tg tg' && (tgS tg).all own.contains && ckT0 (c.inn scope) cond ifs && ckE (c.inn scope) elt elt'
    | _ => false)
  | .fld o f, e => (match e with
    | .Attribute o' nm _ => decide (nm = f) && ckE c o o' && plainB o'
    | _ => false)
  | .mcall o m es, e => (match e with
    | .Call (.Attribute o' nm apos) es' [] cpos => decide (nm = m) && ckE c o o' && ckL c es es' && plainB o' && (apos.endLine == cpos.line) && decide (es'.length < 28)
    | _ => false)
  | .make x es, e => (match e with
    | .Call (.Name y _) es' [] _ => decide (y = x) && glB c.sc y && ckL c es es'
    | _ => false)
  | .make0 x, e => (match e with
    | .Call (.Name y _) [] [] _ => decide (y = x) && glB c.sc y
    | _ => false)
  | .dsp es, e => (match e with
    | .Dict ks vs _ => ckP c es ks vs && decide (ks.length ≤ 15)
    | _ => false)
  | .get1 o k, e => (match e with
    | .Call (.Attribute o' nm apos) [k'] [] cpos => decide (nm = "get") && ckE c o o' && ckE c k k' && (apos.endLine == cpos.line) && plainB o' && noStar k'
    | _ => false)
  | .get2 o k d, e => (match e with
    | .Call (.Attribute o' nm apos) [k', d'] [] cpos => decide (nm = "get") && ckE c o o' && ckE c k k' && (apos.endLine == cpos.line) && plainB o' && noStar k' && ckE c d d' && noStar d'
    | _ => false)
  | .gget x k d, e => (match e with
    | .Call (.Attribute (.Name y p) nm apos) [k', d'] [] cpos => decide (nm = "get") && decide (y = x) && glB c.sc y && ckE c k k' && (apos.endLine == cpos.line) && plainB (.Name y p) && noStar k' && ckE c d d' && noStar d'
    | _ => false)
  | .dpop1 o k, e => (match e with
    | .Call (.Attribute o' nm apos) [k'] [] cpos => decide (nm = "pop") && ckE c o o' && ckE c k k' && (apos.endLine == cpos.line) && plainB o' && noStar k'
    | _ => false)
  | .dpop2 o k d, e => (match e with
    | .Call (.Attribute o' nm apos) [k', d'] [] cpos => decide (nm = "pop") && ckE c o o' && ckE c k k' && (apos.endLine == cpos.line) && plainB o' && noStar k' && ckE c d d' && noStar d'
    | _ => false)
def ckP (c : Ctx) : Exs → List (Option Expr) → List Expr → Bool
  | .nil, ks, vs => (match ks, vs with
    | [], [] => true
    | _, _ => false)
  | .cons k r, ks, vs => (match r, ks, vs with
    | .cons v r, some k' :: ks, v' :: vs => ckE c k k' && ckE c v v' && ckP c r ks vs
    | _, _, _ => false)
def ckO (c : Ctx) : Oe → Option Expr → Bool
  | .none, e => (match e with
    | none => true
    | _ => false)
  | .some m, e => (match e with
    | some e => ckE c m e
    | _ => false)
def ckI (c : Ctx) : It → Expr → Expr → Bool
  | .seq m, _, e => ckE c m e && noSet e
  | .range1 m, _, e => (match e with
    | .Call (.Name x _) [a] [] _ => decide (x = "range") && glB c.sc x && ckE c m a && noStar a
    | _ => false)
  | .range2 m n, _, e => (match e with
    | .Call (.Name x _) [a, b] [] _ => decide (x = "range") && glB c.sc x && ckE c m a && noStar a && ckE c n b && noStar b
    | _ => false)
  | .enum m, tg, e => (match tg, e with
    | .Tuple _ _ _, .Call (.Name x _) [a] [] _ => decide (x = "enumerate") && glB c.sc x && ckE c m a && noStar a
    | _, _ => false)
  | .zip m n, tg, e => (match tg, e with
    | .Tuple _ _ _, .Call (.Name x _) [a, b] [] _ => decide (x = "zip") && glB c.sc x && ckE c m a && noStar a && ckE c n b && noStar b
    | _, _ => false)
  | .rev m, _, e => (match e with
    | .Call (.Name x _) [a] [] _ => decide (x = "reversed") && glB c.sc x && ckE c m a && noStar a
    | _ => false)
def ckT0 (c : Ctx) : Tes0 → List Expr → Bool
  | .none, es => (match es with
    | [] => true
    | _ => false)
  | .some t, es => (match es with
    | [e] => ckT c t e
    | _ => false)
def ckT (c : Ctx) : Te → Expr → Bool
  | .val m, e => ckE c m e && (plainT e || isCmp m)
  | .not t, e => (match e with
    | .UnaryOp .Not a _ => ckT c t a
    | _ => false)
  | .and ts, e => (match e with
    | .BoolOp .And es _ => ckTs c ts es
    | _ => false)
  | .or ts, e => (match e with
    | .BoolOp .Or es _ => ckTs c ts es
    | _ => false)
def ckTs (c : Ctx) : Tes → List Expr → Bool
  | .one t, es => (match es with
    | [e] => ckT c t e
    | _ => false)
  | .cons t ts, es => (match es with
    | e :: e2 :: r => ckT c t e && ckTs c ts (e2 :: r)
    | _ => false)
def ckL (c : Ctx) : Exs → List Expr → Bool
  | .nil, es => (match es with
    | [] => true
    | _ => false)
  | .cons m ms, es => (match es with
    | e :: r => ckE c m e && noStar e && ckL c ms r
    | _ => false)
end

/-- a value that no comprehension gives -/
def noComp : Expr → Bool
  | .ListComp _ _ _ _ => false | .SetComp _ _ _ _ => false | .DictComp _ _ _ _ _ => false
  | _ => true

/-- a comprehension's list is put in no other way than a value is -/
def noSwap (sc : Scope) (x : Str) (p : Pos) : Expr → Bool
  | .ListComp _ _ scope pos => !(decide (sc.names.lookup x = some .local) && (p.line == pos.line) && !(scope.names.any fun (n, k) => n == x && (k == .local || k == .cell)))
  | e => noComp e
/-- .. but in another -/
def yesSwap (sc : Scope) (x : Str) (p : Pos) : Expr → Bool
  | .ListComp _ _ scope pos => decide (sc.names.lookup x = some .local) && (p.line == pos.line) && !(scope.names.any fun (n, k) => n == x && (k == .local || k == .cell))
  | _ => false

mutual
def ckS (c : Ctx) : Sm → Stmt → Bool
  | .set i m, s => (match s with
    | .Assign [.Name x p] e _ => decide (c.N[i]? = some x) && c.lc x && ckE c m e && noSwap c.sc x p e
    | _ => false)
  | .asg tg m, s => (match s with
    | .Assign [.Tuple es k p] e _ => ckG c tg (.Tuple es k p) && ckE c m e && noComp e && noTup e
    | _ => false)
  | .setSub o i m, s => (match s with
    | .Assign [.Subscript o' i' _] e _ => ckE c o o' && ckE c i i' && ckE c m e && noSlice i' && noComp e
    | _ => false)
  | .aug i op m, s => (match s with
    | .AugAssign (.Name x _) op' e _ => decide (c.N[i]? = some x) && c.lc x && (bopB op op' && (decide (op = .add) || decide (op = .sub))) && ckE c m e
    | _ => false)
  | .setC i own elt tg it cond, s => (match s with
    | .Assign [.Name x p] (.ListComp elt' [⟨tg', it', ifs, 0⟩] scope pos) _ => decide (c.N[i]? = some x) && yesSwap c.sc x p (.ListComp elt' [⟨tg', it', ifs, 0⟩] scope pos) &&
        (blkC c.N c.sc scope (ownA c.N own) && ckI c it tg' it' && ckG (c.inn scope) tg tg' && (tgS tg).all own.contains && ckT0 (c.inn scope) cond ifs && ckE (c.inn scope) elt elt')
    | _ => false)
  | .for_ tg it b, s => (match s with
    | .For tg' it' bd [] _ => ckI c it tg' it' && ckG c tg tg' && ckSs c b bd
    | _ => false)
  | .ret m, s => (match s with
    | .Return (some e) _ => ckE c m e
    | _ => false)
  | .retN, s => (match s with
    | .Return none _ => true
    | _ => false)
  | .pass, s => (match s with
    | .Pass _ => true
    | .Expr (.Constant (.str _) _ _) _ => true
    | _ => false)
  | .brk, s => (match s with
    | .Break _ => true
    | _ => false)
  | .cont, s => (match s with
    | .Continue _ => true
    | _ => false)
  | .drop m, s => (match s with
    | .Expr e _ => ckE c m e && noComp e
    | _ => false)
  | .ite t a b, s => (match s with
    | .If e x y _ => ckT c t e && ckSs c a x && ckSs c b y
    | _ => false)
  | .whil t b, s => (match s with
    | .While e x [] _ => ckT c t e && ckSs c b x
    | _ => false)
  | .raise x, s => (match s with
    | .Raise (some (.Call (.Name y _) [.Constant (.str _) _ _] [] _)) none _ => decide (y = x) && glB c.sc y && c.xs.contains x
    | _ => false)
  | .setFld o f m, s => (match s with
    | .Assign [.Attribute o' nm _] e _ => decide (nm = f) && ckE c o o' && ckE c m e && noComp e
    | _ => false)
  | .augFld o f op m, s => (match s with
    | .AugAssign (.Attribute o' nm _) op' e _ => decide (nm = f) && bopB op op' && ckE c o o' && ckE c m e
    | _ => false)
def ckSs (c : Ctx) : Sms → List Stmt → Bool
  | .nil, ss => (match ss with
    | [] => true
    | _ => false)
  | .cons m ms, ss => (match ss with
    | s :: r => ckS c m s && ckSs c ms r
    | _ => false)
end
def nodupB : List Str → Bool
  | [] => true
  | x :: r => !r.contains x && nodupB r
/-- a def of the text -/
def ckF (xs fs : List Str) (d : Fn) (st : Stmt) : Bool := match st with
  | .FunctionDef _ a b _ _ _ sc _ _ _ => ckSs ⟨d.N, sc, xs, fs, locB sc⟩ d.body b && decide (sc.kind = .function) && !sc.isCoroutine && !sc.isGenerator && decide d.N.Nodup && decide (d.N.take d.ps.length = d.ps)
      && d.ps.all (fun x => locB sc x) && sc.names.all (fun y => decide (y.2 ≠ .free))
      && decide (a.args.map (·.arg) = d.ps) && a.posonlyargs.isEmpty && a.vararg.isNone && a.kwonlyargs.isEmpty && a.kw_defaults.isEmpty && a.kwarg.isNone && a.defaults.isEmpty
  | _ => false
end AM
end

section
set_option linter.all false
set_option maxRecDepth 100000
set_option maxHeartbeats 4000000
/-! AM, fifth part: expressions are sound. -/
namespace AM
open PySem L2

theorem _root_.L2.PE.weak {X : Cx} {e : Expr} {t t' : TE} (h : PE X e t) (w : ∀ σ H Q, t' σ H Q → t σ H Q) : PE X e t' := ⟨fun pins s σ H Q I q => h.run pins s σ H Q I (w _ _ _ q)⟩
theorem _root_.L2.PT.weak {X : Cx} {e : Expr} {t t' : TT} (h : PT X e t) (w : ∀ σ H Q, t' σ H Q → t σ H Q) : PT X e t' := ⟨fun pins s σ H Q I q => h.run pins s σ H Q I (w _ _ _ q)⟩
theorem _root_.L2.PW.weak {X : Cx} {e : Expr} {t t' : TT} (h : PW X e t) (w : ∀ σ H Q, t' σ H Q → t σ H Q) : PW X e t' := ⟨fun wh pins s σ H Q I q => h.run wh pins s σ H Q I (w _ _ _ q)⟩
theorem _root_.L2.PA.weak {X : Cx} {e : List Expr} {t t' : TA} (h : PA X e t) (w : ∀ σ H Q, t' σ H Q → t σ H Q) : PA X e t' := ⟨fun pos pins s σ H Q I q => h.run pos pins s σ H Q I (w _ _ _ q)⟩

section
variable (K : PySem.W.Frag) (cA : Str → Addr)
def post (F : Hp) (β : List Addr) (Q : VK) : PV := fun v S' => ∀ F' β' H' x, Ext F β F' β' → Sim K cA F' β' S' H' → VR K F' β' v x → Q x H'
def postL (F : Hp) (β : List Addr) (Q : List V → Hp → Prop) : PL := fun v S' => ∀ F' β' H' x, Ext F β F' β' → Sim K cA F' β' S' H' → VRs K F' β' v x → Q x H'
def postB (F : Hp) (β : List Addr) (Q : Bool → Hp → Prop) : Bool → Sto → Prop := fun v S' => ∀ F' β' H', Ext F β F' β' → Sim K cA F' β' S' H' → Q v H'
def postX (F : Hp) (β : List Addr) (Wx : WX) (σ : St) : PX := fun c S' => ∀ F' β' H', Ext F β F' β' → Sim K cA F' β' S' H' → Wx (.ref (cA c)) none σ H'
def liftE (Wx : WX) (w : Env → Sto → PV → PX → Prop) : TE := fun σ H Q => ∃ F β Γ S, Sim K cA F β S H ∧ EnvR K F β Γ σ ∧ w Γ S (post K cA F β Q) (postX K cA F β Wx σ)
def liftL (Wx : WX) (w : Env → Sto → PL → PX → Prop) : TA := fun σ H Q => ∃ F β Γ S, Sim K cA F β S H ∧ EnvR K F β Γ σ ∧ w Γ S (postL K cA F β Q) (postX K cA F β Wx σ)
def liftT (Wx : WX) (w : Env → Sto → (Bool → Sto → Prop) → PX → Prop) : TT := fun σ H Q => ∃ F β Γ S, Sim K cA F β S H ∧ EnvR K F β Γ σ ∧ w Γ S (postB K cA F β Q) (postX K cA F β Wx σ)
end

section
variable (K : PySem.W.Frag) (cA : Str → Addr)
/-- an iterator over xs, while G stands -/
structure ItOk (F : Hp) (β : List Addr) (J : L2.It) (xs : List Va) (G : Sto → Prop) : Prop where
  go : ∀ F' β' S H i, Ext F β F' β' → Sim K cA F' β' S H → G S → i < xs.length → J.go i H
  stop : ∀ F' β' S H, Ext F β F' β' → Sim K cA F' β' S H → G S → J.stop xs.length H
  yld : ∀ F' β' S H i x H', Ext F β F' β' → Sim K cA F' β' S H → G S → i < xs.length → J.yld i H x H' → ∃ F2 v, xs[i]? = some v ∧ Ext F' β' F2 β' ∧ Sim K cA F2 β' S H' ∧ VR K F2 β' v x
def postI (F : Hp) (β : List Addr) (R : L2.It → Hp → Prop) : PI_ := fun xs G S' => ∀ F' β' H' J, Ext F β F' β' → Sim K cA F' β' S' H' → ItOk K cA F' β' J xs G → R J H'
def postO (F : Hp) (β : List Addr) (Q : Option Int → Hp → Prop) : Option Int → Sto → Prop := fun o S' => ∀ F' β' H', Ext F β F' β' → Sim K cA F' β' S' H' → Q o H'
def liftI (Wx : WX) (w : Env → Sto → PI_ → PX → Prop) : TI := fun σ H R => ∃ F β Γ S, Sim K cA F β S H ∧ EnvR K F β Γ σ ∧ w Γ S (postI K cA F β R) (postX K cA F β Wx σ)
def liftO (Wx : WX) (w : Env → Sto → (Option Int → Sto → Prop) → PX → Prop) : TO := fun σ H R => ∃ F β Γ S, Sim K cA F β S H ∧ EnvR K F β Γ σ ∧ w Γ S (postO K cA F β R) (postX K cA F β Wx σ)
end
theorem _root_.L2.PI.weak {X : Cx} {tg e : Expr} {t t' : TI} (h : PI X tg e t) (w : ∀ σ H Q, t' σ H Q → t σ H Q) : PI X tg e t' := ⟨fun pins s σ H Q I q => h.run pins s σ H Q I (w _ _ _ q)⟩
theorem _root_.L2.PO.weak {X : Cx} {e : Option Expr} {t t' : TO} (h : PO X e t) (w : ∀ σ H Q, t' σ H Q → t σ H Q) : PO X e t' := ⟨fun pins s σ H Q I q => h.run pins s σ H Q I (w _ _ _ q)⟩
theorem _root_.L2.PG.weak {X : Cx} {e : Expr} {t t' : TG} (h : PG X e t) (w : ∀ v σ H Q, t' v σ H Q → t v σ H Q) : PG X e t' := ⟨fun pins s σ H v u Q I r q => h.run pins s σ H v u Q I r (w _ _ _ _ q)⟩
theorem _root_.L2.PGs.weak {X : Cx} {e : List Expr} {t t' : TGs} (h : PGs X e t) (w : ∀ v σ H Q, t' v σ H Q → t v σ H Q) : PGs X e t' := ⟨fun pins s σ H v u Q I r q => h.run pins s σ H v u Q I r (w _ _ _ _ q)⟩
theorem _root_.L2.PG.or {X : Cx} {e : Expr} {t t' : TG} (h : PG X e t) (h' : PG X e t') : PG X e (fun v σ H Q => t v σ H Q ∨ t' v σ H Q) := ⟨fun pins s σ H v u Q I r q => q.elim (fun q => h.run pins s σ H v u Q I r q) fun q => h'.run pins s σ H v u Q I r q⟩
theorem _root_.L2.PTs.weak {X : Cx} {e : List Expr} {t t' : TT} (h : PTs X e t) (w : ∀ σ H Q, t' σ H Q → t σ H Q) : PTs X e t' := ⟨fun pins s σ H Q I q => h.run pins s σ H Q I (w _ _ _ q)⟩

/-- a def's promise -/
def spI (K : PySem.W.Frag) (cA : Str → Addr) (C : Orc) (f : Str) : Sp := fun vs H Q E => ∃ F β S as, Sim K cA F β S H ∧ VRs K F β as vs ∧
  C.run f as S (post K cA F β Q) (fun c S' => ∀ F' β' H', Ext F β F' β' → Sim K cA F' β' S' H' → E (.ref (cA c)) none H')

def bltNames : List Str := ["len", "abs", "isinstance", "int", "bool", "str", "tuple", "list", "dict", "range", "max", "min", "sum", "sorted", "reversed", "enumerate", "zip", "all", "any", "ord"]

theorem vis_of {sc : Scope} {x : Str} (h : visB sc x = true) : Vis sc x := by
  have h1 := (Bool.and_eq_true_iff.mp (Bool.and_eq_true_iff.mp h).1).1
  unfold Vis
  split at h1
  · exact .inl (by assumption)
  · exact .inr (.inl (by assumption))
  · exact .inr (.inr (by assumption))
  · cases h1
theorem loc_of {sc : Scope} {x : Str} (h : locB sc x = true) : sc.names.lookup x = some .local ∨ sc.names.lookup x = some .cell := by
  unfold locB at h
  split at h
  · exact .inl (by assumption)
  · exact .inr (by assumption)
  · cases h
theorem gl_of {sc : Scope} {x : Str} (h : glB sc x = true) : sc.names.lookup x = some .globalImplicit := by
  have h1 := (Bool.and_eq_true_iff.mp (Bool.and_eq_true_iff.mp h).1).1
  split at h1
  · assumption
  · cases h1
/-- an own class, as isinstance asks it -/
def IsaOk (K : PySem.W.Frag) (C : Addr) : Prop := Cls K C ∧ PySem.W.findIn K (.ref C) "__class__" = some (some (.builtin "object.__class__")) ∧ PySem.W.specialIn K (.builtin "object.__class__") "__get__" = some (some (.builtin "getset_descriptor.__get__")) ∧
  PySem.W.takesIn K (.builtin "object.__class__") = some true ∧ PySem.W.mroIn K C (.type "object") = some true
/-- a written dict: what stands at some texts, there or not -/
def DctOk (w : World) (K : PySem.W.Frag) (mg : Str → Option Value) (p : Str × List (Str × Option Va)) : Prop := ∃ A es n, mg p.1 = some (.ref A) ∧ KDict K w A es n ∧ ∀ q ∈ p.2, ∃ r, PySem.W.nsIn K A q.1 = some r ∧
  match q.2 with
  | none => r = none
  | some v => ∃ u y, r = some u ∧ RelV y u ∧ ∀ F β, VR K F β v y
structure Gd (c : Ctx) (cA : Str → Addr) (T : Tab) (k : Nat) (Wx : WX) (X : Cx) : Prop where
  hN : X.N = c.N
  nd : X.N.Nodup
  sc : X.env.scope = c.sc
  kind : c.sc.kind = .function
  loc : ∀ x, c.lc x = true → Loc X.env.scope x ∧ (X.fn x = true ∨ X.env.scope.names.lookup x = some .local)
  calm : X.calm = true
  room : Room (2 * k + 1) X.A
  tk : Takes X Wx
  pass : PassesOwn (model X.prog X.w) X.A X.env X.xe
  blt : ∀ x ∈ bltNames, X.mg x = none
  fn : ∀ f ∈ c.fs, ∃ d a fd, T f = some d ∧ X.mg f = some (.ref a) ∧ PySem.W.keepIn X.K (.ref a) = true ∧ Binds X.K fd d.ps [] ∧ FnOk X.prog X.w X.K X.mg X.base (L2.CX X.prog X.w) (2 * k) a fd d.ps (spI X.K cA (orc T k) f)
  exc : ∀ x ∈ c.xs, X.mg x = some (.ref (cA x)) ∧ PySem.W.excIn X.K (cA x) [.type "ValueError", .type "Exception", .type "BaseException", .type "object"] "ValueError.__new__" = true ∧ PySem.W.keepIn X.K (.ref (cA x)) = true ∧ Raises X (.ref (cA x))
  glo : ∀ p ∈ T.gb, ∃ u y, X.mg p.1 = some u ∧ RelV y u ∧ ∀ F β, VR X.K F β p.2 y
  noat : ∀ p ∈ T.na, Cls X.K (cA p.1) ∧ NoAttr X.K (cA p.1) p.2
  meth : ∀ p ∈ T.mt, Cls X.K (cA p.1) ∧ ∃ d a fd, T.fn p.2.2 = some d ∧ Meth X.K (cA p.1) p.2.1 a ∧ Binds X.K fd d.ps [] ∧ FnOk X.prog X.w X.K X.mg X.base (L2.CX X.prog X.w) (2 * k) a fd d.ps (spI X.K cA (orc T k) p.2.2)
  init : ∀ p ∈ T.it, X.mg p.1 = some (.ref (cA p.1)) ∧ PySem.W.keepIn X.K (.ref (cA p.1)) = true ∧ match p.2 with
    | none => PySem.W.makesIn X.K (cA p.1) = true ∧ PySem.W.findIn X.K (.ref (cA p.1)) "__init__" = some (some (.builtin "object.__init__")) ∧ PySem.W.mroIn X.K (cA p.1) (.type "object") = some true
    | some key => ∃ d a fd, T.fn key = some d ∧ Mk X.K (cA p.1) a ∧ Binds X.K fd d.ps [] ∧ FnOk X.prog X.w X.K X.mg X.base (L2.CX X.prog X.w) (2 * k) a fd d.ps (spI X.K cA (orc T k) key)
  isa : ∀ p ∈ T.ia, X.mg p.2.1 = some (.ref (cA p.2.1)) ∧ IsaOk X.K (cA p.1) ∧ PySem.W.kitOne X.K (.ref (cA p.1)) (.ref (cA p.2.1)) = some p.2.2
  gdc : ∀ p ∈ T.gd, DctOk X.w X.K X.mg p
theorem Gd.vis {c : Ctx} {cA : Str → Addr} {T : Tab} {k : Nat} {Wx : WX} {X : Cx} (g : Gd c cA T k Wx X) (x : Str) (h : visB c.sc x = true) : Vis X.env.scope x := by
  rw [g.sc]; exact vis_of h
theorem Gd.gl {c : Ctx} {cA : Str → Addr} {T : Tab} {k : Nat} {Wx : WX} {X : Cx} (g : Gd c cA T k Wx X) (x : Str) (h : glB c.sc x = true) : Gl X x := by
  show X.env.scope.names.lookup x = _
  rw [g.sc]; exact gl_of h
theorem rel_lk {sc : Scope} {x : Str} {k : NameKind} : ∀ {l : List (Str × NameKind)}, l.lookup x = some k → (l.map fun (n, k) => if (k == NameKind.free && sc.kind == .function && sc.names.lookup n == some .cell) then (n, NameKind.cell) else (n, k)).lookup x = some (if (k == NameKind.free && sc.kind == .function && sc.names.lookup x == some .cell) then NameKind.cell else k)
  | [], h => by simp at h
  | (n, j) :: r, h => by
    have ih := @rel_lk sc x k r
    show List.lookup x ((if (j == NameKind.free && sc.kind == .function && sc.names.lookup n == some .cell) = true then (n, NameKind.cell) else (n, j)) :: _) = _
    cases hx : x == n with
    | true =>
      have e : x = n := by simpa using hx
      subst e
      rw [List.lookup_cons, hx] at h
      cases h
      by_cases hc : (k == NameKind.free && sc.kind == .function && sc.names.lookup x == some .cell) = true
      · rw [if_pos hc, if_pos hc, List.lookup_cons, hx]
      · rw [if_neg hc, if_neg hc, List.lookup_cons, hx]
    | false =>
      rw [List.lookup_cons, hx] at h
      by_cases hc : (j == NameKind.free && sc.kind == .function && sc.names.lookup n == some .cell) = true
      · rw [if_pos hc, List.lookup_cons, hx]; exact ih h
      · rw [if_neg hc, List.lookup_cons, hx]; exact ih h
theorem Gd.inn {c : Ctx} {cA : Str → Addr} {T : Tab} {k : Nat} {Wx : WX} {X : Cx} (g : Gd c cA T k Wx X) {scope : Scope} (hk : scope.kind = .function) (s : Shared) (H : Hp) (C : Addr) (cl : List (Str × Addr)) (fp : List Addr) :
    Gd (c.inn scope) cA T k (fun _ _ _ _ => False) (X.blk s H scope (compEnvC scope cl C X.env) fp) where
  hN := g.hN
  nd := g.nd
  sc := by
    show relS scope X.env.scope = relS scope c.sc
    rw [g.sc]
  kind := hk
  loc := fun x h => by
    have h1 : locB scope x = true := h
    have hz : ∀ k, k ≠ NameKind.free → scope.names.lookup x = some k → (relS scope X.env.scope).names.lookup x = some k := fun k hk e => by
      have e1 := rel_lk (sc := X.env.scope) e
      have e2 : (k == NameKind.free) = false := by cases k <;> first | rfl | exact absurd rfl hk
      rw [e2] at e1
      exact e1
    rcases loc_of h1 with e | e
    · exact ⟨.inl (hz _ (by decide) e), .inr (hz _ (by decide) e)⟩
    · refine ⟨.inr (hz _ (by decide) e), .inl ?_⟩
      show (scope.names.lookup x == some .cell) = true
      rw [e]; rfl
  calm := g.calm
  room := g.room
  tk := by
    rintro u s' ⟨_, _, _, _, _, _, _, _, _, _, _, _, _, _, _, _, z⟩
    exact z.elim
  pass := PassesOwn.never
  blt := g.blt
  fn := g.fn
  exc := g.exc
  glo := g.glo
  noat := g.noat
  meth := g.meth
  isa := g.isa
  gdc := g.gdc
  init := g.init

section
variable {K : PySem.W.Frag} {cA : Str → Addr} {F F' : Hp} {β β' : List Addr}
theorem post_ext {Q : VK} (e : Ext F β F' β') {v : Va} {S : Sto} (h : post K cA F β Q v S) : post K cA F' β' Q v S := fun F2 β2 H2 x e2 s r => h F2 β2 H2 x (e.trans e2) s r
theorem postX_ext {Wx : WX} {σ : St} (e : Ext F β F' β') : ∀ (c : Str) (S : Sto), postX K cA F β Wx σ c S → postX K cA F' β' Wx σ c S := fun c S h F2 β2 H2 e2 s => h F2 β2 H2 (e.trans e2) s
theorem EnvR.ext {Γ : Env} {σ : St} (e : Ext F β F' β') (h : EnvR K F β Γ σ) : EnvR K F' β' Γ σ := EnvR.mono e.sub e.pre Γ σ h
theorem VR.ext {v : Va} {x : V} (e : Ext F β F' β') (h : VR K F β v x) : VR K F' β' v x := VR.mono e.sub e.pre v x h
theorem VRs.ext {v : List Va} {x : List V} (e : Ext F β F' β') (h : VRs K F β v x) : VRs K F' β' v x := VRs.mono e.sub e.pre v x h
theorem post_here {Q : VK} {v : Va} {S : Sto} {H : Hp} {x : V} (s : Sim K cA F β S H) (r : VR K F β v x) (h : post K cA F β Q v S) : Q x H := h F β H x (Ext.refl F β) s r
end

section
variable {K : PySem.W.Frag} {cA : Str → Addr} {C : Orc} (hC : OrcMono C) {F : Hp} {β : List Addr} {S : Sto} {H : Hp} {Γ : Env} {σ : St} {Wx : WX}
include hC
theorem runE {m : Ex} {R : PV} {E0 : PX} {Q1 : VK} (s : Sim K cA F β S H) (g : EnvR K F β Γ σ) (w : W C m Γ S R E0) (hE : ∀ c S, E0 c S → postX K cA F β Wx σ c S)
    (h : ∀ F' β' S1 H1 v x, Ext F β F' β' → Sim K cA F' β' S1 H1 → VR K F' β' v x → R v S1 → Q1 x H1) : liftE K cA Wx (W C m) σ H Q1 :=
  ⟨F, β, Γ, S, s, g, W_mono hC m _ _ _ _ _ _ (fun v S1 r F' β' H' x e s' vr => h F' β' S1 H' v x e s' vr r) hE w⟩
theorem runB {m : Te} {R : PV} {E0 : PX} {Q1 : VK} (s : Sim K cA F β S H) (g : EnvR K F β Γ σ) (w : WB C m Γ S R E0) (hE : ∀ c S, E0 c S → postX K cA F β Wx σ c S)
    (h : ∀ F' β' S1 H1 v x, Ext F β F' β' → Sim K cA F' β' S1 H1 → VR K F' β' v x → R v S1 → Q1 x H1) : liftE K cA Wx (WB C m) σ H Q1 :=
  ⟨F, β, Γ, S, s, g, WB_mono hC m _ _ _ _ _ _ (fun v S1 r F' β' H' x e s' vr => h F' β' S1 H' v x e s' vr r) hE w⟩
theorem runT {m : Te} {R : Bool → Sto → Prop} {E0 : PX} {Q1 : Bool → Hp → Prop} (s : Sim K cA F β S H) (g : EnvR K F β Γ σ) (w : WT C m Γ S R E0) (hE : ∀ c S, E0 c S → postX K cA F β Wx σ c S)
    (h : ∀ F' β' S1 H1 v, Ext F β F' β' → Sim K cA F' β' S1 H1 → R v S1 → Q1 v H1) : liftT K cA Wx (WT C m) σ H Q1 :=
  ⟨F, β, Γ, S, s, g, WT_mono hC m _ _ _ _ _ _ (fun v S1 r F' β' H' e s' => h F' β' S1 H' v e s' r) hE w⟩
theorem runL {m : Exs} {R : PL} {E0 : PX} {Q1 : List V → Hp → Prop} (s : Sim K cA F β S H) (g : EnvR K F β Γ σ) (w : WL C m Γ S R E0) (hE : ∀ c S, E0 c S → postX K cA F β Wx σ c S)
    (h : ∀ F' β' S1 H1 v x, Ext F β F' β' → Sim K cA F' β' S1 H1 → VRs K F' β' v x → R v S1 → Q1 x H1) : liftL K cA Wx (WL C m) σ H Q1 :=
  ⟨F, β, Γ, S, s, g, WL_mono hC m _ _ _ _ _ _ (fun v S1 r F' β' H' x e s' vr => h F' β' S1 H' v x e s' vr r) hE w⟩
end

section
variable {K : PySem.W.Frag} {cA : Str → Addr} {C : Orc} (hC : OrcMono C) {F : Hp} {β : List Addr} {S : Sto} {H : Hp} {Γ : Env} {σ : St} {Wx : WX}
include hC
theorem runO {m : Oe} {R : Option Int → Sto → Prop} {E0 : PX} {Q1 : Option Int → Hp → Prop} (s : Sim K cA F β S H) (g : EnvR K F β Γ σ) (w : WOe C m Γ S R E0) (hE : ∀ c S, E0 c S → postX K cA F β Wx σ c S)
    (h : ∀ F' β' S1 H1 v, Ext F β F' β' → Sim K cA F' β' S1 H1 → R v S1 → Q1 v H1) : liftO K cA Wx (WOe C m) σ H Q1 :=
  ⟨F, β, Γ, S, s, g, WOe_mono hC m _ _ _ _ _ _ (fun v S1 r F' β' H' e s' => h F' β' S1 H' v e s' r) hE w⟩
theorem runI {m : It} {R : PI_} {E0 : PX} {Q1 : L2.It → Hp → Prop} (s : Sim K cA F β S H) (g : EnvR K F β Γ σ) (w : WI C m Γ S R E0) (hE : ∀ c S, E0 c S → postX K cA F β Wx σ c S)
    (h : ∀ F' β' S1 H1 J xs G, Ext F β F' β' → Sim K cA F' β' S1 H1 → ItOk K cA F' β' J xs G → R xs G S1 → Q1 J H1) : liftI K cA Wx (WI C m) σ H Q1 :=
  ⟨F, β, Γ, S, s, g, WI_mono hC m _ _ _ _ _ _ (fun xs G S1 r F' β' H' J e s' i => h F' β' S1 H' J xs G e s' i r) hE w⟩
end

/-! ### what is laid anew, read -/
section
variable {K : PySem.W.Frag} {cA : Str → Addr} {F : Hp} {β : List Addr} {S : Sto} {H : Hp} {Q : VK}
theorem post_new {xs : List Va} {ys : List V} (s : Sim K cA F β S H) (r : VRs K F β xs ys) (h : post K cA F β Q (.loc S.length) (S ++ [.lst xs])) : ∀ p, H p = none → Q (.ref p) (upd H p (.lst ys)) := fun p hp => by
  have s2 := s.new hp (o := .lst xs) (u := .lst ys) ⟨ys, upd_same, VRs.mono (Same.refl _) (List.prefix_append _ _) _ _ r⟩
  refine h _ _ _ _ ⟨Same.refl _, List.prefix_append _ _⟩ s2 ⟨p, rfl, ?_⟩
  rw [← s.len]; simp
theorem post_tup {xs : List Va} {ys : List V} (s : Sim K cA F β S H) (r : VRs K F β xs ys) (h : post K cA F β Q (.tup xs) S) : ∀ p, H p = none → Q (.ref p) (upd H p (.tup ys)) := fun p hp => by
  obtain ⟨s2, sb⟩ := s.lay hp (.tup ys)
  exact h _ _ _ _ ⟨sb, List.prefix_refl _⟩ s2 ⟨p, ys, rfl, SqT.of upd_same, VRs.mono sb (List.prefix_refl _) _ _ r⟩
theorem VRs.rep {K : PySem.W.Frag} {F : Hp} {β : List Addr} {xs : List Va} {ys : List V} (h : VRs K F β xs ys) : ∀ n : Nat, VRs K F β (List.replicate n xs).flatten (List.replicate n ys).flatten
  | 0 => rfl
  | n + 1 => by
    rw [List.replicate_succ, List.flatten_cons, List.replicate_succ, List.flatten_cons]
    exact h.append (VRs.rep h n)
theorem LV.ok {v : Va} {x : V} {xs : List Va} (s : Sim K cA F β S H) (h : LV S v xs) (r : VR K F β v x) : ∃ a ys, x = .ref a ∧ H a = some (.lst ys) ∧ VRs K F β xs ys := by
  rcases h with rfl | ⟨k, rfl, hk⟩
  · obtain ⟨a, ys, rfl, t, q⟩ := r
    exact ⟨a, ys, rfl, s.sub _ _ t, q⟩
  · obtain ⟨a, rfl, t⟩ := r
    obtain ⟨b, e1, _, ys, e2, q⟩ := s.at hk
    rw [t] at e1
    cases (Option.some.inj e1)
    exact ⟨a, ys, rfl, e2, q⟩
theorem flat_ok {v : Va} {x : V} (h : flat v = true) (r : VR K F β v x) : flatV x = true := by
  cases v <;> first | (cases r; rfl) | cases h
theorem flats_ok : ∀ {xs : List Va} {ys : List V}, xs.all flat = true → VRs K F β xs ys → ys.all flatV = true
  | [], _, _, r => by cases (show _ = [] from r); rfl
  | x :: xs, _, h, ⟨y, t, e, q, qs⟩ => by
    subst e
    rw [List.all_cons, Bool.and_eq_true] at h ⊢
    exact ⟨flat_ok h.1 q, flats_ok h.2 qs⟩
theorem eqW_ok {v u : Va} {x y : V} (h1 : flat v = true) (h2 : flat u = true) (r1 : VR K F β v x) (r2 : VR K F β u y) : eqV x y = eqW v u := by
  cases v <;> cases u <;> first | exact (Bool.false_ne_true h1).elim | exact (Bool.false_ne_true h2).elim | (cases r1; cases r2; rfl)
theorem inW_ok {u : Va} {y : V} (h2 : flat u = true) (r2 : VR K F β u y) : ∀ {xs : List Va} {ys : List V}, xs.all flat = true → VRs K F β xs ys → inV y ys = xs.any fun z => eqW z u
  | [], _, _, r => by cases (show _ = [] from r); rfl
  | x :: xs, _, h, ⟨z, t, e, q, qs⟩ => by
    subst e
    rw [List.all_cons, Bool.and_eq_true] at h
    have ih := inW_ok h2 r2 h.2 qs
    unfold inV at ih ⊢
    rw [List.any_cons, List.any_cons, ih, eqW_ok h.1 h2 q r2]
theorem str1 {x : Str} (h : x.length = 1) : x = ⟨#[x.cps.getD 0 0]⟩ := by
  obtain ⟨⟨l⟩⟩ := x
  match l, h with
  | [c], _ => rfl
end

/-! ### dicts, objects -/
theorem kV_keyV {K : PySem.W.Frag} {F : Hp} {β : List Addr} {v : Va} {x : V} {k : Key} (h : keyV v = some k) (r : VR K F β v x) : x = kV k := by
  cases v <;> first | (cases h; done) | (cases h; exact r)
theorem keyA_ok {K : PySem.W.Frag} {F : Hp} {β : List Addr} (k : Key) : VR K F β (keyA k) (kV k) := by
  cases k <;> rfl
section
variable {K : PySem.W.Frag} {cA : Str → Addr} {F : Hp} {β : List Addr} {S : Sto} {H : Hp} {Q : VK}
theorem dget_cons {k' k : Key} {v : Va} {r : List (Key × Va)} : dget ((k', v) :: r) k = if k' = k then some v else dget r k := by
  unfold dget
  by_cases h : k' = k
  · rw [List.find?_cons, if_pos h]; simp [h]
  · rw [List.find?_cons, if_neg h]; simp [h]
theorem VRk.val : ∀ {kvs : List (Key × Va)} {ys : List (Key × V)} (k : Key), VRk K F β kvs ys → (∀ v, dget kvs k = some v → ∃ y, valV ys k = some y ∧ VR K F β v y) ∧ (dget kvs k = none → valV ys k = none)
  | [], _, k, h => by cases (show _ = [] from h); exact ⟨fun _ e => (by cases e), fun _ => rfl⟩
  | (k', v) :: r, _, k, ⟨y, t, e, q, qs⟩ => by
    subst e
    obtain ⟨i1, i2⟩ := VRk.val k qs
    rw [dget_cons]
    by_cases h : k' = k
    · rw [if_pos h, valV_pos (p := (k', y)) h]
      exact ⟨fun u e => by cases e; exact ⟨y, rfl, q⟩, fun e => by cases e⟩
    · rw [if_neg h, valV_neg (p := (k', y)) h]
      exact ⟨i1, i2⟩
theorem VRk.keys : ∀ {kvs : List (Key × Va)} {ys : List (Key × V)}, VRk K F β kvs ys → ys.map (·.1) = kvs.map (·.1)
  | [], _, h => by cases (show _ = [] from h); rfl
  | (k', v) :: r, _, ⟨y, t, e, q, qs⟩ => by subst e; simp [VRk.keys qs]
theorem VRk.len {kvs : List (Key × Va)} {ys : List (Key × V)} (h : VRk K F β kvs ys) : kvs.length = ys.length := by
  have := congrArg List.length h.keys
  simpa using this.symm
theorem VRk.app : ∀ {kvs : List (Key × Va)} {ys : List (Key × V)} {k : Key} {v : Va} {y : V}, VRk K F β kvs ys → VR K F β v y → VRk K F β (kvs ++ [(k, v)]) (ys ++ [(k, y)])
  | [], _, k, v, y, h, q => by cases (show _ = [] from h); exact ⟨y, [], rfl, q, rfl⟩
  | (k', u) :: r, _, k, v, y, ⟨z, t, e, q', qs⟩, q => by subst e; exact ⟨z, _, rfl, q', VRk.app qs q⟩
theorem VRk.mapP {k : Key} {v : Va} {y : V} (q : VR K F β v y) : ∀ {kvs : List (Key × Va)} {ys : List (Key × V)}, VRk K F β kvs ys → VRk K F β (kvs.map fun kv => if kv.1 = k then (kv.1, v) else kv) (ys.map fun kv => if kv.1 = k then (kv.1, y) else kv)
  | [], _, h => by cases (show _ = [] from h); rfl
  | (k', u) :: r, _, ⟨z, t, e, q', qs⟩ => by
    subst e
    by_cases h : k' = k
    · simp only [List.map_cons, if_pos h]; exact ⟨y, _, rfl, q, VRk.mapP q qs⟩
    · simp only [List.map_cons, if_neg h]; exact ⟨z, _, rfl, q', VRk.mapP q qs⟩
theorem VRk.put {k : Key} {v : Va} {y : V} {kvs : List (Key × Va)} {ys : List (Key × V)} (h : VRk K F β kvs ys) (q : VR K F β v y) : VRk K F β (dput kvs k v) (putK ys k y) := by
  have e : (ys.any fun kv => decide (kv.1 = k)) = kvs.any fun kv => decide (kv.1 = k) := by
    have e1 : (ys.map (·.1)).any (fun z => decide (z = k)) = (kvs.map (·.1)).any (fun z => decide (z = k)) := by rw [h.keys]
    simpa [List.any_map, Function.comp_def] using e1
  unfold dput putK
  rw [e]
  split
  · exact VRk.mapP q h
  · exact VRk.app h q
theorem VRk.drop {k : Key} : ∀ {kvs : List (Key × Va)} {ys : List (Key × V)}, VRk K F β kvs ys → VRk K F β (ddrop kvs k) (dropK ys k)
  | [], _, h => by cases (show _ = [] from h); rfl
  | (k', u) :: r, _, ⟨z, t, e, q', qs⟩ => by
    subst e
    have ih := VRk.drop (k := k) qs
    unfold ddrop dropK at ih ⊢
    by_cases h : k' = k
    · rw [List.filter_cons_of_neg (by simp [h]), List.filter_cons_of_neg (by simp [h])]; exact ih
    · rw [List.filter_cons_of_pos (by simp [h]), List.filter_cons_of_pos (by simp [h])]; exact ⟨z, _, rfl, q', ih⟩
theorem VRk.merge : ∀ {more : List (Key × Va)} {ms : List (Key × V)} {kvs : List (Key × Va)} {ys : List (Key × V)}, VRk K F β more ms → VRk K F β kvs ys → VRk K F β (mergeA kvs more) (mergeK ys ms)
  | [], _, _, _, h, q => by cases (show _ = [] from h); exact q
  | (k', u) :: r, _, _, _, ⟨z, t, e, q', qs⟩, q => by
    subst e
    show VRk K F β (mergeA (dput _ k' u) r) (mergeK (putK _ k' z) t)
    exact VRk.merge qs (VRk.put q q')
theorem LD.ok {v : Va} {x : V} {kvs : List (Key × Va)} (s : Sim K cA F β S H) (h : LD S v kvs) (r : VR K F β v x) : ∃ a ys, x = .ref a ∧ H a = some (.dK ys) ∧ VRk K F β kvs ys := by
  rcases h with rfl | ⟨k, rfl, hk⟩
  · obtain ⟨a, ys, rfl, t, q⟩ := r
    exact ⟨a, ys, rfl, s.sub _ _ t, q⟩
  · obtain ⟨a, rfl, t⟩ := r
    obtain ⟨b, e1, _, ys, e2, q⟩ := s.at hk
    rw [t] at e1
    cases (Option.some.inj e1)
    exact ⟨a, ys, rfl, e2, q⟩
theorem VRf.get : ∀ {fs : List (Str × Va)} {ys : List (Str × V)} {f : Str}, VRf K F β fs ys → (∀ v, fs.lookup f = some v → ∃ y, ys.lookup f = some y ∧ VR K F β v y) ∧ (fs.lookup f = none → ys.lookup f = none)
  | [], _, f, h => by cases (show _ = [] from h); exact ⟨fun _ e => (by cases e), fun _ => rfl⟩
  | (k, v) :: r, _, f, ⟨y, t, e, q, qs⟩ => by
    subst e
    obtain ⟨i1, i2⟩ := VRf.get (f := f) qs
    rw [List.lookup_cons, List.lookup_cons]
    cases f == k with
    | true => exact ⟨fun u e => by cases e; exact ⟨y, rfl, q⟩, fun e => by cases e⟩
    | false => exact ⟨i1, i2⟩
theorem VRf.put {f : Str} {v : Va} {y : V} (q : VR K F β v y) : ∀ {fs : List (Str × Va)} {ys : List (Str × V)}, VRf K F β fs ys → VRf K F β (putFA f v fs) (putF f y ys)
  | [], _, h => by cases (show _ = [] from h); exact ⟨y, [], rfl, q, rfl⟩
  | (k, u) :: r, _, ⟨z, t, e, q', qs⟩ => by
    subst e
    unfold putFA putF
    by_cases h : k = f
    · rw [if_pos h, if_pos h]; exact ⟨y, _, rfl, q, qs⟩
    · rw [if_neg h, if_neg h]; exact ⟨z, _, rfl, q', VRf.put q qs⟩
theorem VRf.len : ∀ {fs : List (Str × Va)} {ys : List (Str × V)}, VRf K F β fs ys → fs.length = ys.length
  | [], _, h => by cases (show _ = [] from h); rfl
  | (k, u) :: r, _, ⟨z, t, e, q', qs⟩ => by subst e; simp [VRf.len qs]
/-- an object of the store, at its address -/
theorem ins_ok {k : Nat} {x : V} {c : Str} {fs : List (Str × Va)} (s : Sim K cA F β S H) (hk : S[k]? = some (.ins c fs)) (r : VR K F β (.loc k) x) : ∃ a dx ys, x = .ref a ∧ β[k]? = some a ∧ F a = none ∧ H a = some (.ins (cA c) dx ys) ∧ VRf K F β fs ys := by
  obtain ⟨a, rfl, t⟩ := r
  obtain ⟨b, e1, fa, dx, ys, e2, q⟩ := s.at hk
  rw [t] at e1
  cases (Option.some.inj e1)
  exact ⟨a, dx, ys, rfl, t, fa, e2, q⟩
theorem dct_ok {k : Nat} {x : V} {kvs : List (Key × Va)} (s : Sim K cA F β S H) (hk : S[k]? = some (.dct kvs)) (r : VR K F β (.loc k) x) : ∃ a ys, x = .ref a ∧ β[k]? = some a ∧ F a = none ∧ H a = some (.dK ys) ∧ VRk K F β kvs ys := by
  obtain ⟨a, rfl, t⟩ := r
  obtain ⟨b, e1, fa, ys, e2, q⟩ := s.at hk
  rw [t] at e1
  cases (Option.some.inj e1)
  exact ⟨a, ys, rfl, t, fa, e2, q⟩
theorem put_dct {k : Nat} {a : Addr} {o : Ob} {kvs : List (Key × Va)} {ys : List (Key × V)} (s : Sim K cA F β S H) (hk : S[k]? = some o) (ha : β[k]? = some a) (r : VRk K F β kvs ys) : Sim K cA F β (S.set k (.dct kvs)) (upd H a (.dK ys)) := by
  obtain ⟨b, e1, fa, _⟩ := s.at hk
  rw [ha] at e1
  cases e1
  exact s.put (lt_of_get hk) ha fa ⟨ys, upd_same, r⟩
theorem put_ins {k : Nat} {a dx : Addr} {o : Ob} {c : Str} {fs : List (Str × Va)} {ys : List (Str × V)} (s : Sim K cA F β S H) (hk : S[k]? = some o) (ha : β[k]? = some a) (r : VRf K F β fs ys) : Sim K cA F β (S.set k (.ins c fs)) (upd H a (.ins (cA c) dx ys)) := by
  obtain ⟨b, e1, fa, _⟩ := s.at hk
  rw [ha] at e1
  cases e1
  exact s.put (lt_of_get hk) ha fa ⟨dx, ys, upd_same, r⟩
theorem post_dct {kvs : List (Key × Va)} {ys : List (Key × V)} (s : Sim K cA F β S H) (r : VRk K F β kvs ys) (h : post K cA F β Q (.loc S.length) (S ++ [.dct kvs])) : ∀ p, H p = none → Q (.ref p) (upd H p (.dK ys)) := fun p hp => by
  have s2 := s.new hp (o := .dct kvs) (u := .dK ys) ⟨ys, upd_same, VRk.mono (Same.refl _) (List.prefix_append _ _) _ _ r⟩
  refine h _ _ _ _ ⟨Same.refl _, List.prefix_append _ _⟩ s2 ⟨p, rfl, ?_⟩
  rw [← s.len]; simp
/-- a new instance, its own dict first -/
theorem new_ins (s : Sim K cA F β S H) (c : Str) {x dx : Addr} (hx : H x = none) (hdx : H dx = none) (ne : dx ≠ x) : ∃ F', Ext F β F' (β ++ [x]) ∧ Sim K cA F' (β ++ [x]) (S ++ [.ins c []]) (upd (upd H dx (.own x)) x (.ins (cA c) dx [])) := by
  obtain ⟨s1, sb⟩ := s.lay hdx (.own x)
  have hx1 : upd H dx (.own x) x = none := by rw [upd_ne (Ne.symm ne)]; exact hx
  have s2 := s1.new hx1 (o := .ins c []) (u := .ins (cA c) dx []) ⟨dx, [], upd_same, rfl⟩
  exact ⟨_, ⟨sb, List.prefix_append _ _⟩, s2⟩
end
section
variable {X : Cx}
theorem op_din (hu : X.A.units + 1 < cLine) : OpR X (compareOp .In) (fun y x H Q => ∃ a o, x = .ref a ∧ DGet H a y o ∧ Q (.bl o.isSome) H) := by
  intro pins s σ H y x u v Q I ry rx ⟨a, o, e, g, q⟩
  subst e
  cases rx
  exact d_in hu I g ry fun s' I' => ⟨.bl _, H, I', rfl, q⟩
theorem op_dnotin (hu : X.A.units + 1 < cLine) : OpR X (compareOp .NotIn) (fun y x H Q => ∃ a o, x = .ref a ∧ DGet H a y o ∧ Q (.bl (!o.isSome)) H) := by
  intro pins s σ H y x u v Q I ry rx ⟨a, o, e, g, q⟩
  subst e
  cases rx
  exact d_notIn hu I g ry fun s' I' => ⟨.bl _, H, I', rfl, q⟩
end

/-! ### operators by values -/
section
variable {X : Cx} {cA : Str → Addr}
theorem CMulA.ok {i j : Int} (h : CMulA i j) : IntMulOk i j := by
  have b : ∀ x : Int, Builtin.Int.intBits x ≤ x.natAbs.log2 + 1 := fun x => by
    unfold Builtin.Int.intBits
    split <;> omega
  have h1 := b i
  have h2 := b j
  have h3 : i.natAbs.log2 + j.natAbs.log2 < 134000000 := h
  have e : bitsLine = 134217728 := by decide
  unfold IntMulOk
  intro z
  rw [Bool.and_eq_true] at z
  have z2 := z.2
  unfold Builtin.Int.intTooBig at z2
  have z3 := of_decide_eq_true z2
  rw [e] at z3
  omega
theorem op_mulA : OpR X (binaryOp .Mult) (rI CMulA fun i j => .int (i * j)) := opI fun _ _ _ _ _ _ _ hc q => PyProof.Rows.mul_int q hc.ok
theorem op_fdivA : OpR X (binaryOp .FloorDiv) (rI (fun _ j => CDivA j) fun i j => .int (i.fdiv j)) := opI fun i j _ _ _ _ _ hc q => PyProof.Rows.floordiv_int hc.1 q (.inl (PyProof.noPylong_of_log2 hc.2))
/-- what an operator's rule must give -/
def OpS (X : Cx) (cA : Str → Addr) (g : Va → Va → Sto → PV → Prop) (r : R2) : Prop := ∀ (F : Hp) (β : List Addr) (S : Sto) (H : Hp) (v u : Va) (x y : V) (Q : VK), Sim X.K cA F β S H → VR X.K F β v x → VR X.K F β u y → g v u S (post X.K cA F β Q) → r x y H Q
theorem bin_ok {op : Bop} {op' : Operator} (h : bopB op op' = true) : ∃ r, OpR X (binaryOp op') r ∧ OpS X cA (wBin op) r := by
  unfold bopB at h
  split at h
  · refine ⟨_, ((op_add.or op_add_str).or op_cat).or op_catT, fun F β S H v u x y Q s r1 r2 q => ?_⟩
    have cat : ∀ {v u : Va}, VR X.K F β v x → VR X.K F β u y → wCat v u S (post X.K cA F β Q) → rCat x y H Q := fun r1 r2 ⟨xs, h1, ys, h2, h3, q⟩ => by
      obtain ⟨a, zs, rfl, t1, q1⟩ := h1.ok s r1
      obtain ⟨b, ws, rfl, t2, q2⟩ := h2.ok s r2
      exact ⟨a, b, zs, ws, rfl, rfl, t1, t2, by rw [← q1.len, ← q2.len]; exact Nat.le_trans h3 (by decide), post_new s (q1.append q2) q⟩
    unfold wBin at q
    split at q <;> first | exact q.elim | skip
    all_goals simp only [reduceCtorEq] at *
    · cases r1; cases r2; exact .inl (.inl (.inl ⟨_, _, rfl, rfl, post_here (v := .int _) s rfl q⟩))
    · cases r1; cases r2; exact .inl (.inl (.inr ⟨_, _, rfl, rfl, q.1, post_here (v := .str _) s rfl q.2⟩))
    · exact .inl (.inr (cat r1 r2 q))
    · exact .inl (.inr (cat r1 r2 q))
    · obtain ⟨h1, h2, q⟩ := q
      obtain ⟨a, zs, rfl, t1, q1⟩ := r1
      obtain ⟨b, ws, rfl, t2, q2⟩ := r2
      refine .inr ⟨a, b, zs, ws, rfl, rfl, SqT.mono s.sub t1, SqT.mono s.sub t2, ?_, by rw [← q1.len, ← q2.len]; exact Nat.le_trans h2 (by decide), ?_, ?_⟩
      · intro e; subst e
        have := q1.len
        cases ‹List Va› <;> simp_all
      · intro e; subst e
        have e2 := q2.len
        have e3 := List.eq_nil_of_length_eq_zero (show List.length _ = 0 from e2)
        subst e3
        rw [List.append_nil] at q
        exact q F β H _ (Ext.refl _ _) s ⟨a, zs, rfl, t1, q1⟩
      · intro _
        exact post_tup s (q1.append q2) q
  · refine ⟨_, op_sub, fun F β S H v u x y Q s r1 r2 q => ?_⟩
    unfold wBin at q
    split at q <;> first | exact q.elim | skip
    all_goals simp only [reduceCtorEq] at *
    · cases r1; cases r2; exact ⟨_, _, rfl, rfl, post_here (v := .int _) s rfl q⟩
  · refine ⟨_, op_mulA.or op_rep, fun F β S H v u x y Q s r1 r2 q => ?_⟩
    unfold wBin at q
    split at q <;> first | exact q.elim | skip
    all_goals simp only [reduceCtorEq] at *
    · cases r1; cases r2; exact .inl ⟨_, _, rfl, rfl, q.1, post_here (v := .int _) s rfl q.2⟩
    · cases r2
      obtain ⟨xs, h0, h1, h2, h3, q⟩ := q
      obtain ⟨a, zs, rfl, t1, q1⟩ := LV.ok s (.inr ⟨_, rfl, h0⟩) r1
      exact .inr ⟨a, _, zs, rfl, rfl, t1, Int.le_trans (by decide) h1, Int.lt_trans h2 (by decide), by rw [← q1.len]; exact Nat.le_trans h3 (by decide), post_new s (q1.rep _) q⟩
  · refine ⟨_, op_fdivA, fun F β S H v u x y Q s r1 r2 q => ?_⟩
    unfold wBin at q
    split at q <;> first | exact q.elim | skip
    all_goals simp only [reduceCtorEq] at *
    · cases r1; cases r2; exact ⟨_, _, rfl, rfl, q.1, post_here (v := .int _) s rfl q.2⟩
  · refine ⟨_, op_modN, fun F β S H v u x y Q s r1 r2 q => ?_⟩
    unfold wBin at q
    split at q <;> first | exact q.elim | skip
    all_goals simp only [reduceCtorEq] at *
    · cases r1; cases r2; exact ⟨_, _, rfl, rfl, q.1, post_here (v := .int _) s rfl q.2⟩
  · refine ⟨_, op_pow, fun F β S H v u x y Q s r1 r2 q => ?_⟩
    unfold wBin at q
    split at q <;> first | exact q.elim | skip
    all_goals simp only [reduceCtorEq] at *
    · cases r1; cases r2; exact ⟨_, _, rfl, rfl, q.1, post_here (v := .int _) s rfl q.2⟩
  · cases h
end

/-! ### comparisons -/
section
variable {K : PySem.W.Frag} {cA : Str → Addr} {F : Hp} {β : List Addr} {S : Sto} {H : Hp}
mutual
theorem DV.dp (s : Sim K cA F β S H) : ∀ {v : Va} {d : PyData}, DV S v d → ∀ {x : V}, VR K F β v x → Dp K H x d
  | _, _, .non, x, r => by cases (show x = .non from r); exact .non
  | _, _, .bl b, x, r => by cases (show x = .bl b from r); exact .bl b
  | _, _, .int i, x, r => by cases (show x = .int i from r); exact .int i
  | _, _, .str z, x, r => by cases (show x = .str z from r); exact .str z
  | _, _, .tup q, x, ⟨a, ys, e, t, r⟩ => by subst e; exact .tup (SqT.mono s.sub t) (DVs.dp s q r)
  | _, _, .lst q, x, ⟨a, ys, e, t, r⟩ => by subst e; exact .lst (SqL.of (s.sub _ _ t)) (DVs.dp s q r)
  | _, _, .loc hk q, x, ⟨a, e, t⟩ => by
    subst e
    obtain ⟨b, e1, _, ys, e2, r⟩ := s.at hk
    rw [t] at e1
    cases (Option.some.inj e1)
    exact .lst (SqL.of e2) (DVs.dp s q r)
theorem DVs.dp (s : Sim K cA F β S H) : ∀ {v : List Va} {d : List PyData}, DVs S v d → ∀ {x : List V}, VRs K F β v x → DpAll K H x d
  | _, _, .nil, x, r => by cases (show x = [] from r); exact .nil
  | _, _, .cons q qs, x, ⟨y, t, e, r, rs⟩ => by subst e; exact .cons (DV.dp s q r) (DVs.dp s qs rs)
end
theorem scal_ok {v u : Va} {x y : V} (h : scal v u = true) (r1 : VR K F β v x) (r2 : VR K F β u y) : L2.scal x y = true ∧ decide (x = y) = eqF v u := by
  unfold scal at h
  split at h
  · cases r1; cases r2; exact ⟨rfl, by simp [eqF]⟩
  · cases r1; cases r2; exact ⟨rfl, by simp [eqF]⟩
  · cases r1; cases r2; exact ⟨rfl, by simp [eqF]⟩
  · cases r1; cases r2; exact ⟨rfl, by simp [eqF]⟩
  · cases h
theorem isNon_ok {v : Va} {x : V} (r : VR K F β v x) : decide (x = .non) = isNon v := by
  cases v with
  | non => cases r; rfl
  | bl b => cases r; rfl
  | int i => cases r; rfl
  | str z => cases r; rfl
  | tup xs => obtain ⟨a, _, rfl, _⟩ := r; rfl
  | lst xs => obtain ⟨a, _, rfl, _⟩ := r; rfl
  | dct xs => obtain ⟨a, _, rfl, _⟩ := r; rfl
  | loc n => obtain ⟨a, rfl, _⟩ := r; rfl
  | scr n => obtain ⟨a, rfl, _⟩ := r; rfl
end
theorem VRk.mem : ∀ {kvs : List (Key × Va)} {ys : List (Key × V)}, VRk K F β kvs ys → ∀ p ∈ ys, ∃ q ∈ kvs, q.1 = p.1 ∧ VR K F β q.2 p.2
  | [], _, h, p, hp => by cases (show _ = [] from h); cases hp
  | (k', u) :: r, _, ⟨z, t, e, q, qs⟩, p, hp => by
    subst e
    rcases List.mem_cons.mp hp with rfl | hp
    · exact ⟨_, List.mem_cons_self, rfl, q⟩
    · obtain ⟨w, h1, h2⟩ := VRk.mem qs p hp
      exact ⟨w, List.mem_cons_of_mem _ h1, h2⟩
/-- pairs alike, at the heap's side -/
def AlikeK (K : PySem.W.Frag) (H : Hp) (ks ls : List (Key × V)) : Prop := ∀ p ∈ ks, ∃ z d, valV ls p.1 = some z ∧ Dp K H p.2 d ∧ Dp K H z d ∧ SeqAt.shaped d = true ∧ PyData.eqv d d = true
theorem DEq.ok {v u : Va} {x y : V} (s : Sim K cA F β S H) (h : DEq S v u) (r1 : VR K F β v x) (r2 : VR K F β u y) : ∃ a b ks ls, x = .ref a ∧ y = .ref b ∧ H a = some (.dK ks) ∧ H b = some (.dK ls) ∧ ks.length = ls.length ∧ AlikeK K H ks ls := by
  obtain ⟨ks, ls, h1, h2, hn, hp⟩ := h
  obtain ⟨a, ys, e1, t1, q1⟩ := h1.ok s r1
  obtain ⟨b, zs, e2, t2, q2⟩ := h2.ok s r2
  refine ⟨a, b, ys, zs, e1, e2, t1, t2, by rw [← q1.len, ← q2.len]; exact hn, fun p hm => ?_⟩
  obtain ⟨q, m, ek, rv⟩ := VRk.mem q1 p hm
  obtain ⟨z, g, d, d1, d2, d3, d4⟩ := hp q m
  obtain ⟨w, g2, rw2⟩ := (q2.val q.1).1 z g
  exact ⟨w, d, by rw [← ek]; exact g2, DV.dp s d1 rv, DV.dp s d2 rw2, d3, d4⟩
section
variable {X : Cx} {pins : List (Addr × Obj)} {σ : St} {H : Hp} {s : Shared}
theorem alike_hits (hu : X.A.units + 65 < cLine) (I : Inv X pins σ H s) {ls : List (Key × V)} {lb : List (Key × Value)} (rb : KV ls lb) : ∀ {ks : List (Key × V)} {ka : List (Key × Value)}, KV ks ka → AlikeK X.K H ks ls → PySem.W.KeqHits X.A.in1 s lb ka true
  | _, _, .nil, _ => .nil
  | _, _, .cons (b := w) r1 r2, h => by
    obtain ⟨z, d, g, d1, d2, d3, d4⟩ := h _ List.mem_cons_self
    have t := alike_hits hu I rb r2 fun p m => h p (List.mem_cons_of_mem _ m)
    obtain ⟨k, o⟩ := w
    obtain ⟨e, ro⟩ := r1
    have e' := (show _ = k from e)
    have rz := rb.val k
    rw [← e', g] at rz
    obtain ⟨zo, gz, rzo⟩ := rz.some_of
    rw [e'] at gz
    obtain ⟨as, p1⟩ := Dp.reads I d _ _ d1 ro
    obtain ⟨bs, p2⟩ := Dp.reads I d _ _ d2 rzo
    have q := PySem.W.KeqHits.hit gz (PySem.W.keq_at (A := X.A) p1 p2 d3 d3 (by show X.A.units + 1 + 64 < cLine; omega)) t
    rw [d4] at q
    exact q
end
section
variable {X : Cx}
theorem op_eqDD (hu : X.A.units + 65 < cLine) : OpR X (compareOp .Eq) (fun x y H Q => ∃ a b ks ls, x = .ref a ∧ y = .ref b ∧ H a = some (.dK ks) ∧ H b = some (.dK ls) ∧ ks.length = ls.length ∧ AlikeK X.K H ks ls ∧ Q (.bl true) H) := by
  intro pins s σ H x y v u Q I rx ry ⟨a, b, ks, ls, e1, e2, h1, h2, hn, hl, q⟩
  subst e1; subst e2
  cases rx; cases ry
  obtain ⟨_, low1, ka, k1, o1⟩ := I.hok a _ h1
  obtain ⟨_, low2, kb, k2, o2⟩ := I.hok b _ h2
  have len : ka.length = kb.length := by have := k1.length; have := k2.length; omega
  refine PySem.W.keq_eq (knd := mixKind X.prog X.w) low1 low2 o1 o2 (by omega) (fun _ => alike_hits hu I k2 k1 hl) ?_
  rw [len]
  exact fin_bl I q (by simp)
theorem op_neDD (hu : X.A.units + 65 < cLine) : OpR X (compareOp .NotEq) (fun x y H Q => ∃ a b ks ls, x = .ref a ∧ y = .ref b ∧ H a = some (.dK ks) ∧ H b = some (.dK ls) ∧ ks.length = ls.length ∧ AlikeK X.K H ks ls ∧ Q (.bl false) H) := by
  intro pins s σ H x y v u Q I rx ry ⟨a, b, ks, ls, e1, e2, h1, h2, hn, hl, q⟩
  subst e1; subst e2
  cases rx; cases ry
  obtain ⟨_, low1, ka, k1, o1⟩ := I.hok a _ h1
  obtain ⟨_, low2, kb, k2, o2⟩ := I.hok b _ h2
  have len : ka.length = kb.length := by have := k1.length; have := k2.length; omega
  refine PySem.W.keq_ne (knd := mixKind X.prog X.w) low1 low2 o1 o2 (by omega) (fun _ => alike_hits hu I k2 k1 hl) ?_
  rw [len]
  exact fin_bl I q (by simp)
end
section
variable {X : Cx} {cA : Str → Addr}
theorem cmp_ok {op : Cop} {op' : CmpOp} (hu1 : X.A.units + 65 < cLine) (h : copB op op' = true) : ∃ r, OpR X (compareOp op') r ∧ OpS X cA (wCmp op) r := by
  have hu : X.A.units + 64 < cLine := by omega
  unfold copB at h
  split at h
  · refine ⟨_, (op_eq.or (op_eqDD hu1)).or (op_eqD hu), fun F β S H v u x y Q s r1 r2 q => ?_⟩
    simp only [wCmp] at q
    rcases q with (⟨q1, q2⟩ | ⟨q1, q2⟩) | ⟨d, e, q1, q2, q3, q4, q5⟩
    · obtain ⟨z1, z2⟩ := scal_ok q1 r1 r2
      refine .inl (.inl ⟨z1, ?_⟩)
      rw [z2]
      exact post_here (v := .bl _) s rfl q2
    · obtain ⟨a, b, ks, ls, e1, e2, h1, h2, h3, h4⟩ := DEq.ok s q1 r1 r2
      exact .inl (.inr ⟨a, b, ks, ls, e1, e2, h1, h2, h3, h4, post_here (v := .bl _) s rfl q2⟩)
    · exact .inr ⟨d, e, DV.dp s q1 r1, DV.dp s q2 r2, q3, q4, post_here (v := .bl _) s rfl q5⟩
  · refine ⟨_, (op_ne.or (op_neDD hu1)).or (op_neD hu), fun F β S H v u x y Q s r1 r2 q => ?_⟩
    simp only [wCmp] at q
    rcases q with (⟨q1, q2⟩ | ⟨q1, q2⟩) | ⟨d, e, q1, q2, q3, q4, q5⟩
    · obtain ⟨z1, z2⟩ := scal_ok q1 r1 r2
      refine .inl (.inl ⟨z1, ?_⟩)
      rw [z2]
      exact post_here (v := .bl _) s rfl q2
    · obtain ⟨a, b, ks, ls, e1, e2, h1, h2, h3, h4⟩ := DEq.ok s q1 r1 r2
      exact .inl (.inr ⟨a, b, ks, ls, e1, e2, h1, h2, h3, h4, post_here (v := .bl _) s rfl q2⟩)
    · exact .inr ⟨d, e, DV.dp s q1 r1, DV.dp s q2 r2, q3, q4, post_here (v := .bl _) s rfl q5⟩
  · refine ⟨_, op_lt, fun F β S H v u x y Q s r1 r2 q => ?_⟩
    unfold wCmp at q
    split at q <;> first | exact q.elim | skip
    all_goals simp only [reduceCtorEq] at *
    cases r1; cases r2; exact ⟨_, _, rfl, rfl, post_here (v := .bl _) s rfl q⟩
  · refine ⟨_, op_le, fun F β S H v u x y Q s r1 r2 q => ?_⟩
    unfold wCmp at q
    split at q <;> first | exact q.elim | skip
    all_goals simp only [reduceCtorEq] at *
    cases r1; cases r2; exact ⟨_, _, rfl, rfl, post_here (v := .bl _) s rfl q⟩
  · refine ⟨_, op_gt, fun F β S H v u x y Q s r1 r2 q => ?_⟩
    unfold wCmp at q
    split at q <;> first | exact q.elim | skip
    all_goals simp only [reduceCtorEq] at *
    cases r1; cases r2; exact ⟨_, _, rfl, rfl, post_here (v := .bl _) s rfl q⟩
  · refine ⟨_, op_ge, fun F β S H v u x y Q s r1 r2 q => ?_⟩
    unfold wCmp at q
    split at q <;> first | exact q.elim | skip
    all_goals simp only [reduceCtorEq] at *
    cases r1; cases r2; exact ⟨_, _, rfl, rfl, post_here (v := .bl _) s rfl q⟩
  · refine ⟨_, ((op_in_sign.or (op_inD hu1)).or op_in_seq).or (op_din (by omega)), fun F β S H v u x y Q s r1 r2 q => ?_⟩
    have dic : ∀ {kvs : List (Key × Va)} {kk : Key}, LD S u kvs → keyV v = some kk → post X.K cA F β Q (.bl (dget kvs kk).isSome) S → ∃ a o, y = .ref a ∧ DGet H a x o ∧ Q (.bl o.isSome) H := fun {kvs kk} hd hk p => by
      obtain ⟨a, ys, rfl, e, qq⟩ := hd.ok s r2
      obtain ⟨v1, v2⟩ := qq.val kk
      refine ⟨a, valV ys kk, rfl, by rw [kV_keyV hk r1]; exact .k e, ?_⟩
      cases hg : dget kvs kk with
      | none => rw [v2 hg]; rw [hg] at p; exact post_here (v := .bl _) s rfl p
      | some z => obtain ⟨w, e1, _⟩ := v1 z hg; rw [e1]; rw [hg] at p; exact post_here (v := .bl _) s rfl p
    unfold wCmp at q
    split at q <;> first | exact q.elim | skip
    all_goals simp only [reduceCtorEq] at *
    · cases r1; cases r2
      exact .inl (.inl (.inl ⟨_, _, by rw [← str1 q.1], rfl, post_here (v := .bl _) s rfl q.2⟩))
    · obtain ⟨q1, q2, q3⟩ := q
      obtain ⟨a, ys, rfl, t, qq⟩ := r2
      refine .inl (.inr ⟨a, ys, rfl, .inr (SqT.mono s.sub t), flat_ok q1 r1, flats_ok q2 qq, ?_⟩)
      rw [inW_ok q1 r1 q2 qq]
      exact post_here (v := .bl _) s rfl q3
    · obtain ⟨kk, h1, q⟩ := q
      exact .inr (dic (.inl rfl) h1 q)
    · obtain ⟨o, h0, q⟩ := q
      unfold inO at q
      split at q
      · obtain ⟨d, ds, h1, h2, h3, h4, q⟩ := q
        rw [if_neg (by decide)] at q
        exact .inl (.inl (.inr ⟨d, ds, DV.dp s h1 r1, DV.dp s h2 r2, h3, h4, post_here (v := .bl _) s rfl q⟩))
      · obtain ⟨kk, h1, q⟩ := q
        rw [if_neg (by decide)] at q
        exact .inr (dic (.inr ⟨_, rfl, h0⟩) h1 q)
      · exact q.elim
    · obtain ⟨d, ds, h1, h2, h3, h4, q⟩ := q
      exact .inl (.inl (.inr ⟨d, ds, DV.dp s h1 r1, DV.dp s h2 r2, h3, h4, post_here (v := .bl _) s rfl q⟩))
  · refine ⟨_, ((op_notIn_sign.or (op_notInD hu1)).or op_notIn_seq).or (op_dnotin (by omega)), fun F β S H v u x y Q s r1 r2 q => ?_⟩
    have dic : ∀ {kvs : List (Key × Va)} {kk : Key}, LD S u kvs → keyV v = some kk → post X.K cA F β Q (.bl (!(dget kvs kk).isSome)) S → ∃ a o, y = .ref a ∧ DGet H a x o ∧ Q (.bl (!o.isSome)) H := fun {kvs kk} hd hk p => by
      obtain ⟨a, ys, rfl, e, qq⟩ := hd.ok s r2
      obtain ⟨v1, v2⟩ := qq.val kk
      refine ⟨a, valV ys kk, rfl, by rw [kV_keyV hk r1]; exact .k e, ?_⟩
      cases hg : dget kvs kk with
      | none => rw [v2 hg]; rw [hg] at p; exact post_here (v := .bl _) s rfl p
      | some z => obtain ⟨w, e1, _⟩ := v1 z hg; rw [e1]; rw [hg] at p; exact post_here (v := .bl _) s rfl p
    unfold wCmp at q
    split at q <;> first | exact q.elim | skip
    all_goals simp only [reduceCtorEq] at *
    · cases r1; cases r2
      exact .inl (.inl (.inl ⟨_, _, by rw [← str1 q.1], rfl, post_here (v := .bl _) s rfl q.2⟩))
    · obtain ⟨kk, h1, q⟩ := q
      exact .inr (dic (.inl rfl) h1 q)
    · obtain ⟨o, h0, q⟩ := q
      unfold inO at q
      split at q
      · obtain ⟨d, ds, h1, h2, h3, h4, q⟩ := q
        rw [if_pos rfl] at q
        exact .inl (.inl (.inr ⟨d, ds, DV.dp s h1 r1, DV.dp s h2 r2, h3, h4, post_here (v := .bl _) s rfl q⟩))
      · obtain ⟨kk, h1, q⟩ := q
        rw [if_pos rfl] at q
        exact .inr (dic (.inr ⟨_, rfl, h0⟩) h1 q)
      · exact q.elim
    · obtain ⟨q1, q2, q3⟩ := q
      obtain ⟨a, ys, rfl, t, qq⟩ := r2
      refine .inl (.inr ⟨a, ys, rfl, .inr (SqT.mono s.sub t), flat_ok q1 r1, flats_ok q2 qq, ?_⟩)
      rw [inW_ok q1 r1 q2 qq]
      exact post_here (v := .bl _) s rfl q3
    · obtain ⟨d, ds, h1, h2, h3, h4, q⟩ := q
      exact .inl (.inl (.inr ⟨d, ds, DV.dp s h1 r1, DV.dp s h2 r2, h3, h4, post_here (v := .bl _) s rfl q⟩))
  · refine ⟨_, op_is_bl, fun F β S H v u x y Q s r1 r2 q => ?_⟩
    unfold wCmp at q
    split at q <;> first | exact q.elim | skip
    all_goals simp only [reduceCtorEq] at *
    cases r1; cases r2; exact ⟨_, _, rfl, rfl, post_here (v := .bl _) s rfl q⟩
  · refine ⟨_, op_isnot_bl, fun F β S H v u x y Q s r1 r2 q => ?_⟩
    unfold wCmp at q
    split at q <;> first | exact q.elim | skip
    all_goals simp only [reduceCtorEq] at *
    cases r1; cases r2; exact ⟨_, _, rfl, rfl, post_here (v := .bl _) s rfl q⟩
  · cases h
/-- a comparison gives a truth -/
theorem wCmp_bl {op : Cop} {v u : Va} {S : Sto} {P : PV} (h : wCmp op v u S P) : wCmp op v u S fun z S' => (∃ b, z = .bl b) ∧ P z S' := by
  unfold wCmp at h ⊢
  split at h <;> first | exact h.elim | exact ⟨⟨_, rfl⟩, h⟩ | exact ⟨h.1, ⟨_, rfl⟩, h.2⟩ | exact ⟨h.1, h.2.1, ⟨_, rfl⟩, h.2.2⟩ | (obtain ⟨d, ds, h1, h2, h3, h4, q⟩ := h; exact ⟨d, ds, h1, h2, h3, h4, ⟨_, rfl⟩, q⟩) | (obtain ⟨kk, h1, q⟩ := h; exact ⟨kk, h1, ⟨_, rfl⟩, q⟩) | (rcases h with (⟨h1, h2⟩ | ⟨h1, h2⟩) | ⟨d, e, h1, h2, h3, h4, h5⟩; exact .inl (.inl ⟨h1, ⟨_, rfl⟩, h2⟩); exact .inl (.inr ⟨h1, ⟨_, rfl⟩, h2⟩); exact .inr ⟨d, e, h1, h2, h3, h4, ⟨_, rfl⟩, h5⟩) | skip
  all_goals
    obtain ⟨o, h0, q⟩ := h
    refine ⟨o, h0, ?_⟩
    unfold inO at q ⊢
    split at q <;> first | exact q.elim | (obtain ⟨d, ds, h1, h2, h3, h4, q⟩ := q; exact ⟨d, ds, h1, h2, h3, h4, ⟨_, rfl⟩, q⟩) | (obtain ⟨kk, h1, q⟩ := q; exact ⟨kk, h1, ⟨_, rfl⟩, q⟩)
end
end AM
end

section
set_option linter.all false
set_option maxRecDepth 100000
set_option maxHeartbeats 2100000
/-! AM, between: list(reversed(a list)). -/
namespace AM
open PySem PySem.Spec PyProof.Rows L2 RT
section
variable {s : Shared} {prog : Program} {w : World} {A : Around} {E : Value → Shared → Prop}
/-- what a list takes from a walk backwards -/
theorem ext_rev {R : Result → Shared → Prop} {it l : Addr} {vs0 : Array Value} (hq0 : A.handled = none) (hr : s.heap.IsRevIter it l ((vs0.size : Int) - 1)) (hb0 : s.heap.IsList l vs0) (hd0 : l ≠ it) (hz0 : vs0.size ≤ sizeLine) (Z : Addr) (res : Value) (c₀ : Nat)
    (hZi : Z ≠ it) (hZl : Z ≠ l) (hZ : s.heap.get? Z = some { cls := .type "list", data := .seq #[] c₀ })
    (hR : ∀ h' tk acc' c', (∀ b o, b ≠ Z → b ≠ it → s.heap.get? b = some o → h'.get? b = some o) → h'.get? Z = some { cls := .type "list", dict := none, data := .seq acc' c', slots := #[] } →
      ItemsOf (fun i v => vs0[vs0.size - 1 - i]? = some v) acc' vs0.size → R (.ok (.ret res)) { s with heap := h', toks := tk }) :
    wpAny (model prog w) A.in1 (Builtin.List.listExtendWith (.ref Z) (.ref it) res)
      (fun fin s' => match fin with | .done f => R (.ok f) s' | .again c' => c'.quiet = true ∧ codeAny (model prog w) A c' R s') (fun e s' => R (.error e) s') s := by
  have Wk := (Walks.listRev (prog := prog) (w := w) (A := A.in1) hq0 it l hd0 vs0).toS
  have hZf : Z ∉ [it, l] := by simp only [List.mem_cons, List.not_mem_nil, or_false, not_or]; exact ⟨hZi, hZl⟩
  have hty : s.TypeIs (.ref it) "list_reverseiterator" := hr.typeIs
  have h1 : Builtin.List.listSameRef (.ref Z) (.ref it) = false := by simp [Builtin.List.listSameRef, hZi]
  unfold Builtin.List.listExtendWith
  refine wpAny_bind (wpAny_typeOf hty ?_)
  rw [if_neg (by rw [h1]; decide)]
  refine wpAny_bind (wpAny_pyIter_revIter hr ?_)
  refine wpAny_bind (wpAny_holding ?_)
  unfold Builtin.List.listLengthHint
  refine wpAny_bind (wpAny_specialOf hty nolen_lri ?_)
  show wpAny _ A.in1 (specialOf (Value.ref it) (Str.ofString "__length_hint__") >>= _) _ _ _
  refine wpAny_bind (wpAny_specialOf hty hint_lri ?_)
  generalize hie : ("list_reverseiterator.__length_hint__" : String) = idh
  wp_delta
  rw [show splitId idh = some ("list_reverseiterator", "__length_hint__") from by subst hie; decide +kernel]
  subst hie
  refine wpAny_bind (wpAny_isInstance (b := true) hty (by rw [isSubtype_type]; kernel_rfl) ?_)
  refine wpAny_pure ?_
  rw [if_neg (by decide)]
  have en : ((vs0.size : Nat) : Int) - 1 - ((0 : Nat) : Int) = (vs0.size : Int) - 1 := by omega
  refine wpAny_pure ⟨plainId_quiet F.plain_extend_loop _, codeAny_extend_loopS Wk hz0 _ hZf _ vs0.size 0 _ _ _ rfl (Nat.zero_le _) ⟨Nat.zero_le _, by rw [en]; exact hr, hb0⟩ hZ (ItemsOf.nil _) fun s' acc' c' hm hs2' hacc => ?_⟩
  rw [Moved.eq_with hm]
  refine hR s'.heap s'.toks acc' c' (fun b o hb hb2 e => hm.heap b o (fun hmm => ?_) e) hs2' hacc
  rcases List.mem_cons.mp hmm with e' | hmm
  · exact hb e'
  · exact hb2 (List.mem_singleton.mp hmm)
theorem init_rev {R : Result → Shared → Prop} {it l : Addr} {vs0 : Array Value} (hq0 : A.handled = none) (hr : s.heap.IsRevIter it l ((vs0.size : Int) - 1)) (hb0 : s.heap.IsList l vs0) (hd0 : l ≠ it) (hz0 : vs0.size ≤ sizeLine) (Z : Addr)
    (hZi : Z ≠ it) (hZl : Z ≠ l) (hZ : s.heap.get? Z = some { cls := .type "list", data := .seq #[] })
    (hR : ∀ h' tk acc' c', (∀ b o, b ≠ Z → b ≠ it → s.heap.get? b = some o → h'.get? b = some o) → h'.get? Z = some { cls := .type "list", dict := none, data := .seq acc' c', slots := #[] } →
      ItemsOf (fun i v => vs0[vs0.size - 1 - i]? = some v) acc' vs0.size → R (.ok (.ret .none)) { s with heap := h', toks := tk }) :
    wpAny (model prog w) A.in1 (Builtin.«list.__init__» ⟨[.ref Z, .ref it], []⟩)
      (fun fin s' => match fin with | .done f => R (.ok f) s' | .again c' => c'.quiet = true ∧ codeAny (model prog w) A c' R s') (fun e s' => R (.error e) s') s := by
  show wpAny _ _ (do let old ← Builtin.List.listItems (.ref Z); Builtin.List.listUpdate (.ref Z) (fun _ => #[]); letGo old.toList.reverse; Builtin.List.listExtendWith (.ref Z) (.ref it) .none) _ _ s
  refine wpAny_bind ?_
  unfold Builtin.List.listItems
  refine wpAny_bind (wpAny_seqItems hZ rfl (wpAny_pure ?_))
  show wpAny _ _ (updateSeq Z (fun _ => #[]) >>= fun _ => letGo (#[] : Array Value).toList.reverse >>= fun _ => Builtin.List.listExtendWith (.ref Z) (.ref it) .none) _ _ s
  refine wpAny_bind (wpAny_updateSeq hZ rfl ?_)
  have hZ2 := Heap.get?_update_self (Obj.mapSeq (fun _ => (#[] : Array Value))) hZ rfl
  have els : ∀ b o, b ≠ Z → s.heap.get? b = some o → (s.heap.update Z (Obj.mapSeq (fun _ => (#[] : Array Value)))).get? b = some o :=
    fun b o hb e => (Heap.get?_update_other _ _ (Ne.symm hb)).trans e
  refine wpAny_bind (wpAny_letGo ?_)
  refine ext_rev (s := { s with heap := s.heap.update Z (Obj.mapSeq (fun _ => (#[] : Array Value))) }) hq0 (hr.at fun o e => els _ _ hZi.symm e) (hb0.at fun o e => els _ _ hZl.symm e) hd0 hz0 Z .none _ hZi hZl hZ2 fun h' tk acc' c' hk hs2' hacc => ?_
  exact hR h' tk acc' c' (fun b o hb hb2 e => hk b o hb hb2 (els b o hb e)) hs2' hacc
theorem call_list_rev {Q : Value → Shared → Prop} {it l : Addr} {vs0 : Array Value} (hq0 : A.handled = none) (hr : s.heap.IsRevIter it l ((vs0.size : Int) - 1)) (hb0 : s.heap.IsList l vs0) (hd0 : l ≠ it) (hz0 : vs0.size ≤ sizeLine)
    (hQ : ∀ h' tk acc' c', (∀ b o, b ≠ it → s.heap.get? b = some o → h'.get? b = some o) →
      h'.get? s.heap.objs.size = some { cls := .type "list", dict := none, data := .seq acc' c', slots := #[] } → ItemsOf (fun i v => vs0[vs0.size - 1 - i]? = some v) acc' vs0.size → Q (.ref s.heap.objs.size) { s with heap := h', toks := tk }) :
    wpAny (model prog w) A (PySem.call (.type "list") [.ref it]) Q E s := by
  obtain ⟨oi, hoi, _⟩ := id hr
  obtain ⟨ol, hol, _⟩ := id hb0
  have hZi : s.heap.objs.size ≠ it := Nat.ne_of_gt (Heap.lt_size hoi)
  have hZl : s.heap.objs.size ≠ l := Nat.ne_of_gt (Heap.lt_size hol)
  refine callType_codes (Q₁ := fun obj s₁ => obj = .ref s.heap.objs.size ∧ s₁ = { s with heap := s.heap.push { cls := .type "list", data := .seq #[] } }) F.called_list (F.typeCall_list_1 _) F.entry_list_init
    (code_list_new _ ⟨rfl, rfl⟩) fun obj s₁ h₁ => ?_
  obtain ⟨rfl, rfl⟩ := h₁
  have hZ : (s.heap.push { cls := .type "list", data := .seq #[] }).get? s.heap.objs.size = some { cls := .type "list", data := .seq #[] } := Heap.get?_push_size _ rfl
  refine ⟨⟨_, hZ, rfl⟩, F.args_list_init_2 _ _, init_rev (A := A.in1) (s := { s with heap := s.heap.push { cls := .type "list", data := .seq #[] } }) hq0 (hr.at fun o e => Heap.get?_push_of_some _ e) (hb0.push _) hd0 hz0 _ hZi hZl hZ fun h' tk acc' c' hk hs2' hacc => ?_⟩
  exact ⟨rfl, hQ h' tk acc' c' (fun b o hb e => hk b o (Nat.ne_of_lt (Heap.lt_size e)) hb (Heap.get?_push_of_some _ e)) hs2' hacc⟩
end
/-- list(reversed(x)), x a list: a new list -/
def tLstRev (K : PySem.W.Frag) (te : TE) : TE := fun σ H Q => te σ H fun v H1 => ∃ (a : Addr) (xs : List V), v = .ref a ∧ SqL K H1 a xs ∧ ∀ q, H1 q = none → Q (.ref q) (upd H1 q (.lst xs.reverse))
theorem vals_turned {xs : List V} {ws : List Value} {aa : Array Value} (r : Vals xs ws) (h : ItemsOf (fun i v => ws.toArray[ws.toArray.size - 1 - i]? = some v) aa ws.toArray.size) : Vals xs.reverse aa.toList := by
  have hs : ws.toArray.size = ws.length := List.size_toArray
  have hb0 : aa.toList.length = ws.length := by rw [Array.length_toList, h.1, hs]
  have e : aa.toList = ws.reverse := by
    refine List.ext_getElem? fun j => ?_
    by_cases hj : j < ws.length
    · have e1 : aa.toList[j]? = some (aa.toList[j]'(by omega)) := List.getElem?_eq_getElem (by omega)
      have e2 := h.2 j _ ((Array.getElem?_toList ..).symm.trans e1)
      rw [e1, List.getElem?_reverse hj, ← e2, hs]
      simp
    · rw [List.getElem?_eq_none (by omega), List.getElem?_eq_none (by rw [List.length_reverse]; omega)]
  rw [e]
  exact r.reverse
section
variable {X : Cx}
theorem pe_listRev {e : Expr} {te : TE} {p p2 pos pos2 : Pos} (hc : X.calm = true) (hg : Gl X "list") (hm : X.mg "list" = none) (hg2 : Gl X "reversed") (hm2 : X.mg "reversed" = none) (he : PE X e te)
    (hs : starEach [e] X.env = (false, eval e X.env) :: starEach [] X.env)
    (hs2 : starEach [.Call (.Name "reversed" p2) [e] [] pos2] X.env = (false, eval (.Call (.Name "reversed" p2) [e] [] pos2) X.env) :: starEach [] X.env := by rfl) :
    PE X (.Call (.Name "list" p) [.Call (.Name "reversed" p2) [e] [] pos2] [] pos) (tLstRev X.K te) := by
  refine ⟨fun pins s σ H Q I h => ?_⟩
  refine Call_ (ld_blt I hg hm boot_list (PyProof.Rows.callWith_type1 (args_cons (Call_ (ld_blt I hg2 hm2 PyProof.Rows.boot_reversed (PyProof.Rows.callWith_type1 (args_cons (thn (he.run pins s σ H _ I h) fun u t1 ⟨v, H1, J1, r1, q1⟩ => args_nil ?_) hs) hs rfl))) hs2) hs2 rfl))
  obtain ⟨a, xs, rfl, hq, q⟩ := q1
  obtain rfl : u = Value.ref a := r1
  obtain ⟨ws, rr, pl, hz⟩ := J1.list hq
  refine call_reversed_list pl.isList (args_nil ?_)
  have ka : ∀ b o, t1.heap.get? b = some o → (t1.heap.push (revObj a ((ws.toArray.size : Int) - 1))).get? b = some o := fun b o e => Heap.get?_push_of_some _ e
  obtain ⟨g0, f1, f2, f3, f4, f5⟩ := J1.fpOk (H' := H1) (b := t1.heap.objs.size) (Nat.le_refl _) (J1.hok.fresh (Nat.le_refl _))
  have hb0 := pl.isList
  obtain ⟨ol, hol, _⟩ := id hb0
  have hd0 : a ≠ t1.heap.objs.size := Nat.ne_of_lt (Heap.lt_size hol)
  have hz0 : ws.toArray.size ≤ sizeLine := by rw [List.size_toArray, ← rr.length]; exact hz
  refine call_list_rev (s := { t1 with heap := t1.heap.push (revObj a ((ws.toArray.size : Int) - 1)) }) (J1.ok.hd hc) ⟨_, Heap.get?_push_size _ rfl, rfl, rfl⟩ (hb0.push _) hd0 hz0 fun h' tk aa c' hk e' hi => ?_
  have J2 : Inv X pins σ H1 { t1 with heap := t1.heap.push (revObj a ((ws.toArray.size : Int) - 1)) } := J1.kept (t' := t1.toks) ka
  have hsz : t1.heap.objs.size ≤ (t1.heap.push (revObj a ((ws.toArray.size : Int) - 1))).objs.size := by simp [Heap.push]
  have hk2 : ∀ b o, t1.heap.get? b = some o → h'.get? b = some o := fun b o e => hk b o (Nat.ne_of_lt (Heap.lt_size e)) (ka b o e)
  refine ⟨.ref (t1.heap.push (revObj a ((ws.toArray.size : Int) - 1))).objs.size, upd H1 (t1.heap.push (revObj a ((ws.toArray.size : Int) - 1))).objs.size (.lst xs.reverse), J1.laid (t' := tk) hk2 hsz (show ObjOk X.prog X.w _ _ _ (.lst xs.reverse) from ⟨by rw [List.length_reverse]; exact hz, aa.toList, c', vals_turned rr hi, by rw [Array.toArray_toList]; exact e'⟩), rfl, q _ (J1.hok.fresh hsz)⟩
end
end AM
end

section
set_option linter.all false
set_option maxRecDepth 100000
set_option maxHeartbeats 4000000
/-! AM, sixth part: the main theorem on expressions. -/
namespace AM
open PySem L2

theorem plainT_he {e : Expr} (h : plainT e = true) (env : PySem.Env) (whole : Sem Value) : isTrue e env whole = (do let v ← whole; standAt e.pos; holding [v] (truthy v)) := by
  cases e <;> first | rfl | cases h | (rename_i op _ _; cases op <;> first | rfl | cases h)
theorem star_cons {e : Expr} (h : noStar e = true) (es : List Expr) (env : PySem.Env) : starEach (e :: es) env = (false, eval e env) :: starEach es env := by
  cases e <;> first | rfl | cases h
theorem noSet_mark {e : Expr} (h : noSet e = true) (op : CmpOp) : behindInMarks op e = false := by
  cases e <;> first | rfl | cases h
theorem noSlice_ix {e : Expr} (h : noSlice e = true) : PlainIx e := by
  intro o i
  cases e <;> first | rfl | cases h
theorem noComp_sw {e : Expr} (h : noComp e = true) (t : Option Expr) (l : Nat) (env : PySem.Env) : swapsWith e t l env = pure false := by
  cases e <;> first | rfl | cases h
theorem ba {a b : Bool} (h : (a && b) = true) : a = true ∧ b = true := Bool.and_eq_true_iff.mp h

section
variable {X : Cx} {cA : Str → Addr} {F : Hp} {β : List Addr} {S : Sto} {H : Hp}
theorem tru_ok2 {v : Va} {x : V} {b : Bool} (s : Sim X.K cA F β S H) (r : VR X.K F β v x) (h : tru S v = some b) : TruV X.K x H b := by
  cases v with
  | non => cases r; cases h; rfl
  | bl c => cases r; cases h; rfl
  | int i => cases r; cases h; rfl
  | str z => cases h
  | tup xs =>
    obtain ⟨a, ys, rfl, t, q⟩ := r
    cases h
    refine .inr (.inl ⟨ys, SqT.mono s.sub t, ?_⟩)
    have := q.len
    cases xs <;> cases ys <;> simp_all
  | lst xs =>
    obtain ⟨a, ys, rfl, t, q⟩ := r
    cases h
    refine .inl ⟨ys, SqL.of (s.sub _ _ t), ?_⟩
    have := q.len
    cases xs <;> cases ys <;> simp_all
  | dct xs =>
    cases h
    obtain ⟨a, ys, rfl, e2, q⟩ := LD.ok s (.inl rfl) r
    refine .inr (.inr ⟨ys, e2, ?_⟩)
    have := q.len
    cases xs <;> cases ys <;> simp_all
  | scr xs => cases h
  | loc n =>
    simp only [tru] at h
    split at h
    · rename_i xs e
      cases h
      obtain ⟨a, ys, rfl, e2, q⟩ := LV.ok s (.inr ⟨_, rfl, e⟩) r
      refine .inl ⟨ys, SqL.of e2, ?_⟩
      have := q.len
      cases xs <;> cases ys <;> simp_all
    · rename_i xs e
      cases h
      obtain ⟨a, ys, rfl, e2, q⟩ := LD.ok s (.inr ⟨_, rfl, e⟩) r
      refine .inr (.inr ⟨ys, e2, ?_⟩)
      have := q.len
      cases xs <;> cases ys <;> simp_all
    · cases h
theorem call_lenD : CallR X (.builtin "len") (fun xs H Q => ∃ x n, xs = [x] ∧ (LenV X.K x H n ∨ ∃ a kvs, x = .ref a ∧ H a = some (.dK kvs) ∧ n = kvs.length) ∧ Q (.int n) H) := by
  intro pins s σ H xs us Q I r ⟨x, n, e, h, q⟩
  rcases h with h | ⟨a, kvs, ex, hd, en⟩
  · exact call_len pins s σ H xs us Q I r ⟨x, n, e, h, q⟩
  · subst e ex en
    cases r with
    | cons r0 rt =>
      cases rt
      cases r0
      exact d_len I (Rd.of hd) fun t s' I' => ⟨.int _, H, I', ⟨t, rfl⟩, q⟩
theorem len_ok {v : Va} {x : V} {Q : VK} (s : Sim X.K cA F β S H) (r : VR X.K F β v x) (h : wLen v S (post X.K cA F β Q)) : ∃ n : Nat, (LenV X.K x H n ∨ ∃ a kvs, x = .ref a ∧ H a = some (.dK kvs) ∧ n = kvs.length) ∧ Q (.int n) H := by
  have lst : ∀ {xs : List Va}, LV S v xs → post X.K cA F β Q (.int xs.length) S → ∃ n : Nat, (LenV X.K x H n ∨ ∃ a kvs, x = .ref a ∧ H a = some (.dK kvs) ∧ n = kvs.length) ∧ Q (.int n) H := fun hv p => by
    obtain ⟨a, ys, rfl, e, q⟩ := hv.ok s r
    exact ⟨_, .inl (.inl ⟨ys, SqL.of e, q.len⟩), post_here (v := .int _) s rfl p⟩
  have dic : ∀ {xs : List (Key × Va)}, LD S v xs → post X.K cA F β Q (.int xs.length) S → ∃ n : Nat, (LenV X.K x H n ∨ ∃ a kvs, x = .ref a ∧ H a = some (.dK kvs) ∧ n = kvs.length) ∧ Q (.int n) H := fun hv p => by
    obtain ⟨a, ys, rfl, e, q⟩ := hv.ok s r
    exact ⟨_, .inr ⟨a, ys, rfl, e, q.len⟩, post_here (v := .int _) s rfl p⟩
  cases v with
  | non => exact h.elim
  | bl c => exact h.elim
  | int i => exact h.elim
  | str z => cases r; exact ⟨z.length, .inl ⟨h.1, rfl⟩, post_here (v := .int _) s rfl h.2⟩
  | tup xs =>
    obtain ⟨a, ys, rfl, t, q⟩ := r
    exact ⟨xs.length, .inl (.inr ⟨ys, SqT.mono s.sub t, q.len⟩), post_here (v := .int _) s rfl h⟩
  | lst xs => exact lst (.inl rfl) h
  | dct xs => exact dic (.inl rfl) h
  | scr ns =>
    obtain ⟨a, rfl, t⟩ := r
    exact ⟨ns.length, .inl (.inl ⟨_, SqL.mono s.sub t, by simp⟩), post_here (v := .int _) s rfl h⟩
  | loc n =>
    obtain ⟨o, e, h⟩ := h
    cases o with
    | lst xs => exact lst (.inr ⟨_, rfl, e⟩) h
    | dct xs => exact dic (.inr ⟨_, rfl, e⟩) h
    | _ => exact h.elim
theorem abs_ok {v : Va} {x : V} {Q : VK} (s : Sim X.K cA F β S H) (r : VR X.K F β v x) (h : wAbs v S (post X.K cA F β Q)) : ∃ i : Int, x = .int i ∧ Q (.int (if i < 0 then -i else i)) H := by
  cases v <;> first | exact h.elim | skip
  cases r
  exact ⟨_, rfl, post_here (v := .int _) s rfl h⟩
theorem neg_ok {v : Va} {x : V} {Q : VK} (s : Sim X.K cA F β S H) (r : VR X.K F β v x) (h : wNeg v S (post X.K cA F β Q)) : ∃ i : Int, x = .int i ∧ Q (.int (-i)) H := by
  cases v <;> first | exact h.elim | skip
  cases r
  exact ⟨_, rfl, post_here (v := .int _) s rfl h⟩
theorem ty_ok {v : Va} {x : V} {t : Ty} {b : Bool} (s : Sim X.K cA F β S H) (r : VR X.K F β v x) (h : tyIs S v t = some b) : ∃ tv, TyX X.K H x tv ∧ PySem.W.kitOne X.K tv (.type (tyS t)) = some b := by
  cases v with
  | non => cases r; refine ⟨_, .base .non, ?_⟩; cases t <;> cases h <;> exact kit_ty (by decide +kernel)
  | bl c => cases r; refine ⟨_, .base (.bl c), ?_⟩; cases t <;> cases h <;> exact kit_ty (by decide +kernel)
  | int i => cases r; refine ⟨_, .base (.int i), ?_⟩; cases t <;> cases h <;> exact kit_ty (by decide +kernel)
  | str z => cases r; refine ⟨_, .base (.str z), ?_⟩; cases t <;> cases h <;> exact kit_ty (by decide +kernel)
  | tup xs =>
    obtain ⟨a, ys, rfl, tt, q⟩ := r
    have key : TyX X.K H (.ref a) (.type "tuple") := by
      rcases SqT.mono s.sub tt with (e | ⟨o, e⟩) | ⟨o, its, n, e, e2, _⟩
      · exact .base (.tup e)
      · exact .fTuple e
      · exact .kTuple e e2
    refine ⟨_, key, ?_⟩; cases t <;> cases h <;> exact kit_ty (by decide +kernel)
  | lst xs =>
    obtain ⟨a, ys, rfl, tt, q⟩ := r
    refine ⟨_, .base (.lst (s.sub _ _ tt)), ?_⟩; cases t <;> cases h <;> exact kit_ty (by decide +kernel)
  | scr ns =>
    obtain ⟨a, rfl, tt⟩ := r
    have key : TyX X.K H (.ref a) (.type "list") := by
      rcases SqL.mono s.sub tt with (e | ⟨o, e⟩) | ⟨o, its, n, e, e2, _⟩
      · exact .base (.lst e)
      · exact .base (.frz e)
      · exact .kList e e2
    refine ⟨_, key, ?_⟩; cases t <;> cases h <;> exact kit_ty (by decide +kernel)
  | dct xs =>
    obtain ⟨a, ys, rfl, tt, q⟩ := r
    refine ⟨_, .base (.dK (s.sub _ _ tt)), ?_⟩; cases t <;> cases h <;> exact kit_ty (by decide +kernel)
  | loc n =>
    obtain ⟨a, rfl, tt⟩ := r
    simp only [tyIs] at h
    split at h
    · rename_i xs e
      obtain ⟨b, e1, _, ys, e2, q⟩ := s.at e
      rw [tt] at e1
      cases (Option.some.inj e1)
      refine ⟨_, .base (.lst e2), ?_⟩; cases t <;> cases h <;> exact kit_ty (by decide +kernel)
    · rename_i xs e
      obtain ⟨b, e1, _, ys, e2, q⟩ := s.at e
      rw [tt] at e1
      cases (Option.some.inj e1)
      refine ⟨_, .base (.dK e2), ?_⟩; cases t <;> cases h <;> exact kit_ty (by decide +kernel)
    · cases h
theorem at_len {α γ : Type} {xs : List α} {ys : List γ} (hl : xs.length = ys.length) {i : Int} {v : α} (h : atI xs i = some v) : ∃ j : Nat, xs[j]? = some v ∧ ∀ w : γ, ys[j]? = some w → atI ys i = some w := by
  unfold atI at h ⊢
  rw [← hl]
  cases e : ixN xs.length i with
  | none => rw [e] at h; cases h
  | some j => rw [e] at h; exact ⟨j, h, fun w q => q⟩
theorem ix_dict (hu : X.A.units + 1 < cLine) : IxR X (fun x y H Q => ∃ a v, x = .ref a ∧ DGet H a y (some v) ∧ Q v H) := by
  intro value slice pins s σ H x y v u Q I rx ry ⟨a, w, e, g, q⟩ hs
  subst e
  cases rx
  exact PyProof.Rows.tail_any (dict_typeIs I g) PySem.F.slot_dict_getitem.lookup (d_getItem hu I g ry fun w' s' I' r' => ⟨w, H, I', r', q⟩) hs
theorem sub_ok : OpS X cA wSub (fun x y H Q => ((rIxL X.K x y H Q ∨ rIxT X.K x y H Q) ∨ rIxS x y H Q) ∨ ∃ a v, x = .ref a ∧ DGet H a y (some v) ∧ Q v H) := fun F β S H v u x y Q s r1 r2 q => by
  have lst : ∀ {xs : List Va} {i : Int}, LV S v xs → u = .int i → (∃ w, L2.atI xs i = some w ∧ post X.K cA F β Q w S) → rIxL X.K x y H Q := fun {xs i} hv hu ⟨w, h1, h2⟩ => by
    subst hu
    cases r2
    obtain ⟨a, ys, rfl, e2, qq⟩ := hv.ok s r1
    obtain ⟨j, hj, hk⟩ := at_len qq.len h1
    obtain ⟨z, hz, rz⟩ := qq.get hj
    exact ⟨a, ys, _, z, rfl, rfl, SqL.of e2, hk z hz, post_here s rz h2⟩
  have dic : ∀ {kvs : List (Key × Va)}, LD S v kvs → (∃ kk, keyV u = some kk ∧ ∃ w, dget kvs kk = some w ∧ post X.K cA F β Q w S) → ∃ a v, x = .ref a ∧ DGet H a y (some v) ∧ Q v H := fun {kvs} hv ⟨kk, h0, w, h1, h2⟩ => by
    obtain ⟨a, ys, rfl, e2, qq⟩ := hv.ok s r1
    obtain ⟨z, hz, rz⟩ := (qq.val kk).1 w h1
    exact ⟨a, z, rfl, by rw [kV_keyV h0 r2, ← hz]; exact .k e2, post_here s rz h2⟩
  unfold wSub at q
  split at q <;> first | exact q.elim | skip
  · obtain ⟨a, ys, rfl, t, qq⟩ := r1
    cases r2
    obtain ⟨w, h1, h2⟩ := q
    obtain ⟨j, hj, hk⟩ := at_len qq.len h1
    obtain ⟨z, hz, rz⟩ := qq.get hj
    exact .inl (.inl (.inr ⟨a, ys, _, z, rfl, rfl, SqT.mono s.sub t, hk z hz, post_here s rz h2⟩))
  · exact .inl (.inl (.inl (lst (.inl rfl) rfl q)))
  · obtain ⟨o, h0, q⟩ := q
    unfold subO at q
    split at q
    · exact .inl (.inl (.inl (lst (.inr ⟨_, rfl, h0⟩) rfl q)))
    · exact .inr (dic (.inr ⟨_, rfl, h0⟩) q)
    · exact q.elim
  · exact .inr (dic (.inl rfl) q)
  · obtain ⟨a, rfl, t⟩ := r1
    cases r2
    obtain ⟨n, h1, h2⟩ := q
    obtain ⟨j, hj, hk⟩ := at_len (γ := V) (ys := List.map V.int _) (by rw [List.length_map]) h1
    exact .inl (.inl (.inl ⟨a, _, _, .int n, rfl, rfl, SqL.mono s.sub t, hk (.int n) (by rw [List.getElem?_map, hj]; rfl), post_here (v := .int n) s rfl h2⟩))
  · cases r1; cases r2
    obtain ⟨c, h0, h1, h2⟩ := q
    exact .inl (.inr ⟨_, _, c, rfl, rfl, h0, h1, post_here (v := .str _) s rfl h2⟩)
theorem VRs.drop {K : PySem.W.Frag} {F : Hp} {β : List Addr} : ∀ {xs : List Va} {ys : List V} (n : Nat), VRs K F β xs ys → VRs K F β (xs.drop n) (ys.drop n)
  | xs, ys, 0, h => h
  | [], _, n + 1, h => by cases (show _ = [] from h); rfl
  | x :: xs, _, n + 1, ⟨y, r, e, _, q⟩ => by subst e; exact VRs.drop n q
theorem VRs.take {K : PySem.W.Frag} {F : Hp} {β : List Addr} : ∀ {xs : List Va} {ys : List V} (n : Nat), VRs K F β xs ys → VRs K F β (xs.take n) (ys.take n)
  | xs, ys, 0, h => rfl
  | [], _, n + 1, h => by cases (show _ = [] from h); rfl
  | x :: xs, _, n + 1, ⟨y, r, e, q, qs⟩ => by subst e; exact ⟨y, _, rfl, q, VRs.take n qs⟩
theorem VRs.dropLast {K : PySem.W.Frag} {F : Hp} {β : List Addr} {xs : List Va} {ys : List V} (h : VRs K F β xs ys) : VRs K F β xs.dropLast ys.dropLast := by
  rw [List.dropLast_eq_take, List.dropLast_eq_take, h.len]; exact h.take _
theorem VRs.set {K : PySem.W.Frag} {F : Hp} {β : List Addr} : ∀ {xs : List Va} {ys : List V} (n : Nat) {v : Va} {x : V}, VRs K F β xs ys → VR K F β v x → VRs K F β (xs.set n v) (ys.set n x)
  | [], _, n, _, _, h, _ => by cases (show _ = [] from h); rfl
  | x :: xs, _, 0, _, _, ⟨y, r, e, q, qs⟩, h => by subst e; exact ⟨_, _, rfl, h, qs⟩
  | x :: xs, _, n + 1, _, _, ⟨y, r, e, q, qs⟩, h => by subst e; exact ⟨_, _, rfl, q, VRs.set n qs h⟩
theorem VRs.reverse {K : PySem.W.Frag} {F : Hp} {β : List Addr} : ∀ {xs : List Va} {ys : List V}, VRs K F β xs ys → VRs K F β xs.reverse ys.reverse
  | [], _, h => by cases (show _ = [] from h); rfl
  | x :: xs, _, ⟨y, r, e, q, qs⟩ => by
    subst e
    rw [List.reverse_cons, List.reverse_cons]
    exact (VRs.reverse qs).append ⟨y, [], rfl, q, rfl⟩
theorem cut_ok2 {F : Hp} {β : List Addr} {xs : List Va} {ys : List V} (h : VRs X.K F β xs ys) (lo hi : Option Int) : VRs X.K F β (cutA xs lo hi) (cutV ys lo hi) := by
  unfold cutA cutV
  rw [h.len]
  exact (h.drop _).take _
theorem scr_cut {F : Hp} {β : List Addr} (ns : List Int) (lo hi : Option Int) : VRs X.K F β ((cutA ns lo hi).map Va.int) (cutV (ns.map V.int) lo hi) := by
  have := cut_ok2 (X := X) (F := F) (β := β) (VRs.ints.mpr (rfl : List.map V.int ns = _)) lo hi
  unfold cutA at this ⊢
  rw [List.map_take, List.map_drop]
  rw [List.length_map] at this
  exact this
theorem VRs.mk {K : PySem.W.Frag} {F : Hp} {β : List Addr} {v : Va} {x : V} {vs : List Va} {xs : List V} (h : VR K F β v x) (h' : VRs K F β vs xs) : VRs K F β (v :: vs) (x :: xs) := ⟨x, xs, rfl, h, h'⟩
theorem VRs.one {K : PySem.W.Frag} {F : Hp} {β : List Addr} {v : Va} {x : V} (h : VR K F β v x) : VRs K F β [v] [x] := ⟨x, [], rfl, h, rfl⟩
theorem slice_ok {F : Hp} {β : List Addr} {S : Sto} {H : Hp} {v : Va} {x : V} {lo hi : Option Int} {Q : VK} (s : Sim X.K cA F β S H) (r : VR X.K F β v x) (q : wSlice v lo hi S (post X.K cA F β Q)) :
    (rSlL X.K x lo hi H Q ∨ rSlT X.K x lo hi H Q) ∨ rSlS x lo hi H Q := by
  unfold wSlice at q
  split at q <;> first | exact q.elim | skip
  · obtain ⟨a, ys, rfl, t, qq⟩ := r
    exact .inl (.inl ⟨a, ys, rfl, SqL.of (s.sub _ _ t), post_new s (cut_ok2 qq _ _) q⟩)
  · obtain ⟨xs, h0, q⟩ := q
    obtain ⟨a, ys, rfl, e2, qq⟩ := LV.ok s (.inr ⟨_, rfl, h0⟩) r
    exact .inl (.inl ⟨a, ys, rfl, SqL.of e2, post_new s (cut_ok2 qq _ _) q⟩)
  · obtain ⟨a, rfl, t⟩ := r
    exact .inl (.inl ⟨a, _, rfl, SqL.mono s.sub t, post_new s (scr_cut _ _ _) q⟩)
  · obtain ⟨a, ys, rfl, t, qq⟩ := r
    obtain ⟨h1, q⟩ := q
    refine .inl (.inr ⟨a, ys, rfl, SqT.mono s.sub t, ?_, post_tup s (cut_ok2 qq _ _) q⟩)
    rw [← qq.len]; exact h1
  · cases r
    exact .inr ⟨_, rfl, q.1, post_here (v := .str _) s rfl q.2⟩
end
/-! ### built-in functions and methods -/
section
variable {X : Cx} {cA : Str → Addr}
def bfV : Bf → Value
  | .list => .type "list" | .tuple => .type "tuple" | .sum => .builtin "sum" | .max1 => .builtin "max" | .min1 => .builtin "min" | .max2 => .builtin "max" | .min2 => .builtin "min" | .sorted => .builtin "sorted"
  | .dict => .type "dict" | .ord => .builtin "ord" | .str => .type "str" | .int => .type "int" | .all => .builtin "all" | .any => .builtin "any"
def BltS (X : Cx) (cA : Str → Addr) (f : Bf) (r : List V → Hp → VK → Prop) : Prop := ∀ (F : Hp) (β : List Addr) (S : Sto) (H : Hp) (vs : List Va) (xs : List V) (Q : VK), Sim X.K cA F β S H → VRs X.K F β vs xs → wBlt f vs S (post X.K cA F β Q) → r xs H Q
theorem one_of {K : PySem.W.Frag} {F : Hp} {β : List Addr} {v : Va} {xs : List V} (h : VRs K F β [v] xs) : ∃ x, xs = [x] ∧ VR K F β v x := by
  obtain ⟨x, r, e, q, e2⟩ := h
  cases (show r = [] from e2)
  exact ⟨x, e, q⟩
theorem two_of {K : PySem.W.Frag} {F : Hp} {β : List Addr} {v u : Va} {xs : List V} (h : VRs K F β [v, u] xs) : ∃ x y, xs = [x, y] ∧ VR K F β v x ∧ VR K F β u y := by
  obtain ⟨x, r, e, q, h⟩ := h
  obtain ⟨y, e2, q2⟩ := one_of h
  exact ⟨x, y, by rw [e, e2], q, q2⟩
theorem LV.ints {K : PySem.W.Frag} {F : Hp} {β : List Addr} {S : Sto} {H : Hp} {v : Va} {x : V} {ns : List Int} (s : Sim K cA F β S H) (h : LV S v (ns.map Va.int)) (r : VR K F β v x) : ∃ a, x = .ref a ∧ H a = some (.lst (ns.map V.int)) := by
  obtain ⟨a, ys, e, h1, h2⟩ := h.ok s r
  rw [VRs.ints.mp h2] at h1
  exact ⟨a, e, h1⟩
theorem LV.bls {K : PySem.W.Frag} {F : Hp} {β : List Addr} {S : Sto} {H : Hp} {v : Va} {x : V} {ns : List Bool} (s : Sim K cA F β S H) (h : LV S v (ns.map Va.bl)) (r : VR K F β v x) : ∃ a, x = .ref a ∧ H a = some (.lst (ns.map V.bl)) := by
  obtain ⟨a, ys, e, h1, h2⟩ := h.ok s r
  rw [VRs.bls.mp h2] at h1
  exact ⟨a, e, h1⟩
theorem keysV_ok {K : PySem.W.Frag} {F : Hp} {β : List Addr} : ∀ {kvs : List (Key × Va)} {ys : List (Key × V)}, VRk K F β kvs ys → VRs K F β (kvs.map fun kv => keyA kv.1) (ys.map fun kv => kV kv.1)
  | [], _, h => by cases (show _ = [] from h); rfl
  | (k, v) :: r, _, ⟨y, t, e, _, qs⟩ => by subst e; exact ⟨_, _, rfl, keyA_ok k, keysV_ok qs⟩
theorem CallR.or {f : Value} {r r' : List V → Hp → VK → Prop} (h : CallR X f r) (h' : CallR X f r') : CallR X f (fun xs H Q => r xs H Q ∨ r' xs H Q) := fun pins s σ H xs us Q I rx q =>
  q.elim (fun q => h pins s σ H xs us Q I rx q) fun q => h' pins s σ H xs us Q I rx q
theorem blt_ok (hc : X.calm = true) (f : Bf) : ∃ r, CallR X (bfV f) r ∧ BltS X cA f r := by
  cases f
  case list =>
    refine ⟨_, CallR.or call_list_of (call_listD hc), fun F β S H vs xs Q s rs q => ?_⟩
    have dic : ∀ {v : Va} {kvs : List (Key × Va)}, vs = [v] → LD S v kvs → post X.K cA F β Q (.loc S.length) (S ++ [.lst (kvs.map fun kv => keyA kv.1)]) → ∃ (a : Addr) (kvs : List (Key × V)), xs = [.ref a] ∧ Rd H a (.dK kvs) ∧ ∀ p, H p = none → Q (.ref p) (upd H p (.lst (kvs.map fun kv => kV kv.1))) := fun {v kvs} hv hd p => by
      subst hv
      obtain ⟨x, rfl, r⟩ := one_of rs
      obtain ⟨a, ys, rfl, e2, qq⟩ := hd.ok s r
      refine ⟨a, ys, rfl, Rd.of e2, post_new s ?_ p⟩
      exact keysV_ok qq
    unfold wBlt at q
    split at q <;> first | exact q.elim | skip
    all_goals simp only [reduceCtorEq] at *
    · obtain ⟨x, rfl, a, ys, rfl, t, qq⟩ := one_of rs
      exact .inl ⟨a, ys, rfl, .inl (SqL.of (s.sub _ _ t)), post_new s qq q⟩
    · obtain ⟨x, rfl, a, ys, rfl, t, qq⟩ := one_of rs
      exact .inl ⟨a, ys, rfl, .inr (SqT.mono s.sub t), post_new s qq q⟩
    · obtain ⟨x, rfl, a, rfl, t⟩ := one_of rs
      exact .inl ⟨a, _, rfl, .inl (SqL.mono s.sub t), post_new s (VRs.ints.mpr rfl) q⟩
    · obtain ⟨o, h0, q⟩ := q
      cases o with
      | lst zs =>
        obtain ⟨x, rfl, r⟩ := one_of rs
        obtain ⟨a, ys, rfl, e2, qq⟩ := LV.ok s (.inr ⟨_, rfl, h0⟩) r
        exact .inl ⟨a, ys, rfl, .inl (SqL.of e2), post_new s qq q⟩
      | dct kvs => exact .inr (dic rfl (.inr ⟨_, rfl, h0⟩) q)
      | _ => exact q.elim
    · exact .inr (dic rfl (.inl rfl) q)
  case dict =>
    refine ⟨_, call_dictD, fun F β S H vs xs Q s rs q => ?_⟩
    unfold wBlt at q
    split at q <;> first | exact q.elim | skip
    all_goals simp only [reduceCtorEq] at *
    obtain ⟨x, rfl, r⟩ := one_of rs
    obtain ⟨kvs, hd, q⟩ := q
    obtain ⟨a, ys, rfl, e2, qq⟩ := hd.ok s r
    exact ⟨a, ys, rfl, Rd.of e2, post_dct s qq q⟩
  case tuple =>
    refine ⟨_, call_tuple_of, fun F β S H vs xs Q s rs q => ?_⟩
    unfold wBlt at q
    split at q <;> first | exact q.elim | skip
    all_goals simp only [reduceCtorEq] at *
    · obtain ⟨x, rfl, a, ys, rfl, t, qq⟩ := one_of rs
      exact ⟨a, ys, rfl, .inl ⟨SqL.of (s.sub _ _ t), post_tup s qq q⟩⟩
    · obtain ⟨x, rfl, a, ys, rfl, t, qq⟩ := one_of rs
      exact ⟨a, ys, rfl, .inr ⟨SqT.mono s.sub t, q F β H _ (Ext.refl _ _) s ⟨a, ys, rfl, t, qq⟩⟩⟩
    · obtain ⟨x, rfl, r⟩ := one_of rs
      obtain ⟨zs, h0, q⟩ := q
      obtain ⟨a, ys, rfl, e2, qq⟩ := LV.ok s (.inr ⟨_, rfl, h0⟩) r
      exact ⟨a, ys, rfl, .inl ⟨SqL.of e2, post_tup s qq q⟩⟩
  case sum =>
    refine ⟨_, cr_sum hc, fun F β S H vs xs Q s rs q => ?_⟩
    unfold wBlt at q
    split at q <;> first | exact q.elim | skip
    all_goals simp only [reduceCtorEq] at *
    obtain ⟨x, rfl, r⟩ := one_of rs
    obtain ⟨ns, h1, q⟩ := q
    obtain ⟨a, rfl, e⟩ := h1.ints s r
    exact ⟨a, ns, rfl, SqL.of e, post_here (v := .int _) s rfl q⟩
  case max1 =>
    refine ⟨_, cr_max hc, fun F β S H vs xs Q s rs q => ?_⟩
    unfold wBlt at q
    split at q <;> first | exact q.elim | skip
    all_goals simp only [reduceCtorEq] at *
    obtain ⟨x, rfl, r⟩ := one_of rs
    obtain ⟨ns, h1, h2, q⟩ := q
    obtain ⟨a, rfl, e⟩ := h1.ints s r
    exact ⟨a, ns, rfl, SqL.of e, h2, fun m h3 h4 => post_here (v := .int _) s rfl (q m h3 h4)⟩
  case min1 =>
    refine ⟨_, cr_min hc, fun F β S H vs xs Q s rs q => ?_⟩
    unfold wBlt at q
    split at q <;> first | exact q.elim | skip
    all_goals simp only [reduceCtorEq] at *
    obtain ⟨x, rfl, r⟩ := one_of rs
    obtain ⟨ns, h1, h2, q⟩ := q
    obtain ⟨a, rfl, e⟩ := h1.ints s r
    exact ⟨a, ns, rfl, SqL.of e, h2, fun m h3 h4 => post_here (v := .int _) s rfl (q m h3 h4)⟩
  case max2 =>
    refine ⟨_, call_max2 hc, fun F β S H vs xs Q s rs q => ?_⟩
    unfold wBlt at q
    split at q <;> first | exact q.elim | skip
    all_goals simp only [reduceCtorEq] at *
    obtain ⟨x, y, rfl, r1, r2⟩ := two_of rs
    cases r1; cases r2
    exact ⟨_, _, rfl, post_here (v := .int _) s rfl q⟩
  case min2 =>
    refine ⟨_, call_min2 hc, fun F β S H vs xs Q s rs q => ?_⟩
    unfold wBlt at q
    split at q <;> first | exact q.elim | skip
    all_goals simp only [reduceCtorEq] at *
    obtain ⟨x, y, rfl, r1, r2⟩ := two_of rs
    cases r1; cases r2
    exact ⟨_, _, rfl, post_here (v := .int _) s rfl q⟩
  case sorted =>
    refine ⟨_, CallR.or cr_sortedI (call_sortedDI hc), fun F β S H vs xs Q s rs q => ?_⟩
    unfold wBlt at q
    split at q <;> first | exact q.elim | skip
    all_goals simp only [reduceCtorEq] at *
    obtain ⟨x, rfl, r⟩ := one_of rs
    rcases q with ⟨kvs, ks, hd, h1, q⟩ | ⟨ns, h1, q⟩
    · obtain ⟨a, ys, rfl, e2, qq⟩ := hd.ok s r
      exact .inr ⟨a, ys, ks, rfl, Rd.of e2, qq.keys.trans h1, q.1, fun ns' p h3 h4 hp => post_new s (VRs.ints.mpr rfl) (q.2 ns' h3 h4) p hp⟩
    · obtain ⟨a, rfl, e⟩ := h1.ints s r
      exact .inl ⟨a, ns, rfl, SqL.of e, fun ns' p h3 h4 hp => post_new s (VRs.ints.mpr rfl) (q ns' h3 h4) p hp⟩
  case ord =>
    refine ⟨_, call_ord, fun F β S H vs xs Q s rs q => ?_⟩
    unfold wBlt at q
    split at q <;> first | exact q.elim | skip
    all_goals simp only [reduceCtorEq] at *
    obtain ⟨x, rfl, r⟩ := one_of rs
    cases r
    exact ⟨_, rfl, q.1, post_here (v := .int _) s rfl q.2⟩
  case str =>
    refine ⟨_, call_str_int, fun F β S H vs xs Q s rs q => ?_⟩
    unfold wBlt at q
    split at q <;> first | exact q.elim | skip
    all_goals simp only [reduceCtorEq] at *
    obtain ⟨x, rfl, r⟩ := one_of rs
    cases r
    exact ⟨_, rfl, q.1, post_here (v := .str _) s rfl q.2⟩
  case int =>
    refine ⟨_, CallR.or call_int_str call_int1, fun F β S H vs xs Q s rs q => ?_⟩
    unfold wBlt at q
    split at q <;> first | exact q.elim | skip
    all_goals simp only [reduceCtorEq] at *
    · obtain ⟨x, rfl, r⟩ := one_of rs
      cases r
      exact .inr (.inr ⟨_, rfl, post_here (v := .int _) s rfl q⟩)
    · obtain ⟨x, rfl, r⟩ := one_of rs
      cases r
      exact .inr (.inl ⟨_, rfl, post_here (v := .int _) s rfl q⟩)
    · obtain ⟨x, rfl, r⟩ := one_of rs
      cases r
      obtain ⟨n, h1, h2, q⟩ := q
      exact .inl ⟨_, n, rfl, h1, h2, post_here (v := .int _) s rfl q⟩
  case all =>
    refine ⟨_, cr_all hc, fun F β S H vs xs Q s rs q => ?_⟩
    unfold wBlt at q
    split at q <;> first | exact q.elim | skip
    all_goals simp only [reduceCtorEq] at *
    obtain ⟨x, rfl, r⟩ := one_of rs
    obtain ⟨bs, h1, q⟩ := q
    obtain ⟨a, rfl, e⟩ := h1.bls s r
    exact ⟨a, bs, rfl, SqL.of e, post_here (v := .bl _) s rfl q⟩
  case any =>
    refine ⟨_, cr_any hc, fun F β S H vs xs Q s rs q => ?_⟩
    unfold wBlt at q
    split at q <;> first | exact q.elim | skip
    all_goals simp only [reduceCtorEq] at *
    obtain ⟨x, rfl, r⟩ := one_of rs
    obtain ⟨bs, h1, q⟩ := q
    obtain ⟨a, rfl, e⟩ := h1.bls s r
    exact ⟨a, bs, rfl, SqL.of e, post_here (v := .bl _) s rfl q⟩
theorem blt_call {f : Bf} {r : List V → Hp → VK → Prop} {e : Expr} {es : List Expr} {t : TA} {p pos : Pos} (hr : CallR X (bfV f) r) (hg : Gl X (bfN f)) (hm : X.mg (bfN f) = none) (ha : PA X (e :: es) t)
    (he : starEach (e :: es) X.env = (false, eval e X.env) :: starEach es X.env) (hpl : (backTo pos (starEach es X.env)).any (·.1) = false) : PE X (.Call (.Name (bfN f) p) (e :: es) [] pos) (tCB r t) := by
  cases f
  case list => exact pe_callTy hr hg hm (by decide +kernel) ha (he := he) (hpl := hpl)
  case tuple => exact pe_callTy hr hg hm (by decide +kernel) ha (he := he) (hpl := hpl)
  case dict => exact pe_callTy hr hg hm (by decide +kernel) ha (he := he) (hpl := hpl)
  case sum => exact pe_callB hr hg hm (by decide +kernel) ha (he := he) (hpl := hpl)
  case max1 => exact pe_callB hr hg hm (by decide +kernel) ha (he := he) (hpl := hpl)
  case min1 => exact pe_callB hr hg hm (by decide +kernel) ha (he := he) (hpl := hpl)
  case max2 => exact pe_callB hr hg hm (by decide +kernel) ha (he := he) (hpl := hpl)
  case min2 => exact pe_callB hr hg hm (by decide +kernel) ha (he := he) (hpl := hpl)
  case sorted => exact pe_callB hr hg hm (by decide +kernel) ha (he := he) (hpl := hpl)
  case ord => exact pe_callB hr hg hm (by decide +kernel) ha (he := he) (hpl := hpl)
  case str => exact pe_callTy hr hg hm (by decide +kernel) ha (he := he) (hpl := hpl)
  case int => exact pe_callTy hr hg hm (by decide +kernel) ha (he := he) (hpl := hpl)
  case all => exact pe_callB hr hg hm (by decide +kernel) ha (he := he) (hpl := hpl)
  case any => exact pe_callB hr hg hm (by decide +kernel) ha (he := he) (hpl := hpl)

def mfT : Mf → String
  | .join => "str" | _ => "list"
def mfI : Mf → String
  | .append => "list.append" | .pop => "list.pop" | .extend => "list.extend" | .insert => "list.insert" | .join => "str.join" | .index => "list.index" | .clear => "list.clear" | .remove => "list.remove"
theorem mOk_ty {F : Hp} {β : List Addr} {S : Sto} {H : Hp} {m : Mf} {v : Va} {x : V} (s : Sim X.K cA F β S H) (r : VR X.K F β v x) (h : mOk S m v) : tyV X.K (mfT m) x H := by
  have key : (∃ xs, LV S v xs) → tyV X.K "list" x H := fun ⟨xs, h⟩ => by
    obtain ⟨a, ys, rfl, e, _⟩ := h.ok s r
    exact .inl ⟨rfl, ys, SqL.of e⟩
  cases m <;> first | exact key h | skip
  obtain ⟨a, rfl⟩ := h
  cases r
  rfl
def MthS (X : Cx) (cA : Str → Addr) (m : Mf) (r : V → List V → Hp → VK → Prop) : Prop := ∀ (F : Hp) (β : List Addr) (S : Sto) (H : Hp) (v : Va) (x : V) (vs : List Va) (xs : List V) (Q : VK), Sim X.K cA F β S H → VR X.K F β v x → VRs X.K F β vs xs → wMth m v vs S (post X.K cA F β Q) → r x xs H Q
/-- a list of the store written anew -/
theorem put_lst {K : PySem.W.Frag} {F : Hp} {β : List Addr} {S : Sto} {H : Hp} {k : Nat} {a : Addr} {o : Ob} {xs : List Va} {ys : List V} (s : Sim K cA F β S H) (hk : S[k]? = some o) (ha : β[k]? = some a) (r : VRs K F β xs ys) : Sim K cA F β (S.set k (.lst xs)) (upd H a (.lst ys)) := by
  obtain ⟨b, e1, fa, _⟩ := s.at hk
  rw [ha] at e1
  cases e1
  exact s.put (lt_of_get hk) ha fa ⟨ys, upd_same, r⟩
theorem loc_ok {K : PySem.W.Frag} {F : Hp} {β : List Addr} {S : Sto} {H : Hp} {k : Nat} {x : V} {xs : List Va} (s : Sim K cA F β S H) (hk : S[k]? = some (.lst xs)) (r : VR K F β (.loc k) x) : ∃ a ys, x = .ref a ∧ β[k]? = some a ∧ H a = some (.lst ys) ∧ VRs K F β xs ys := by
  obtain ⟨a, rfl, t⟩ := r
  obtain ⟨b, e1, _, ys, e2, q⟩ := s.at hk
  rw [t] at e1
  cases (Option.some.inj e1)
  exact ⟨a, ys, rfl, t, e2, q⟩
theorem mth_ok (hu1 : X.A.units + 65 < cLine) (m : Mf) : ∃ r, MtR X (mfI m) r ∧ MthS X cA m r := by
  cases m
  case append =>
    refine ⟨_, mt_append, fun F β S H v x vs xs Q s r rs q => ?_⟩
    unfold wMth at q
    split at q <;> first | exact q.elim | skip
    all_goals simp only [reduceCtorEq] at *
    obtain ⟨zs, h0, h1, q⟩ := q
    obtain ⟨a, ys, rfl, ha, e2, qq⟩ := loc_ok s h0 r
    obtain ⟨y, rfl, ry⟩ := one_of rs
    refine ⟨a, ys, y, rfl, rfl, e2, by rw [← qq.len]; exact Nat.lt_trans h1 (by decide), post_here (v := .non) (put_lst s h0 ha ?_) rfl q⟩
    exact VRs.append qq (VRs.one ry)
  case pop =>
    refine ⟨_, mt_pop, fun F β S H v x vs xs Q s r rs q => ?_⟩
    unfold wMth at q
    split at q <;> first | exact q.elim | skip
    all_goals simp only [reduceCtorEq] at *
    obtain ⟨zs, h0, w, h1, q⟩ := q
    obtain ⟨a, ys, rfl, ha, e2, qq⟩ := loc_ok s h0 r
    obtain ⟨z, hz, rz⟩ := qq.get h1
    cases (show xs = [] from rs)
    refine ⟨a, ys, z, rfl, rfl, e2, by rw [← qq.len]; exact hz, post_here (put_lst s h0 ha qq.dropLast) rz q⟩
  case extend =>
    refine ⟨_, mt_extend, fun F β S H v x vs xs Q s r rs q => ?_⟩
    unfold wMth at q
    split at q <;> first | exact q.elim | skip
    all_goals simp only [reduceCtorEq] at *
    obtain ⟨zs, h0, ws, hz, h1, q⟩ := q
    obtain ⟨a, ys, rfl, ha, e2, qq⟩ := loc_ok s h0 r
    obtain ⟨y, rfl, ry⟩ := one_of rs
    obtain ⟨b, us, rfl, e3, qu⟩ := hz.ok s ry
    exact ⟨a, b, ys, us, rfl, rfl, e2, e3, by rw [← qq.len, ← qu.len]; exact Nat.le_trans h1 (by decide), post_here (v := .non) (put_lst s h0 ha (qq.append qu)) rfl q⟩
  case insert =>
    refine ⟨_, mt_insert, fun F β S H v x vs xs Q s r rs q => ?_⟩
    unfold wMth at q
    split at q <;> first | exact q.elim | skip
    all_goals simp only [reduceCtorEq] at *
    obtain ⟨zs, h0, h1, h2, h3, q⟩ := q
    obtain ⟨a, ys, rfl, ha, e2, qq⟩ := loc_ok s h0 r
    obtain ⟨i, y, rfl, ri, ry⟩ := two_of rs
    cases ri
    refine ⟨a, ys, _, y, rfl, rfl, e2, by rw [← qq.len]; exact Nat.lt_trans h1 (by decide), h2, h3, post_here (v := .non) (put_lst s h0 ha ?_) rfl q⟩
    exact VRs.append (VRs.append (qq.take _) (VRs.one ry)) (qq.drop _)
  case join =>
    refine ⟨_, mt_join, fun F β S H v x vs xs Q s r rs q => ?_⟩
    unfold wMth at q
    split at q <;> first | exact q.elim | skip
    all_goals simp only [reduceCtorEq] at *
    obtain ⟨ws, h0, h1, q⟩ := q
    cases r
    obtain ⟨y, rfl, ry⟩ := one_of rs
    rcases h0 with rfl | h0
    · obtain ⟨a, ys, rfl, t, qq⟩ := ry
      rw [VRs.strs.mp qq] at t
      exact ⟨_, a, ws, rfl, rfl, .inr (SqT.mono s.sub t), h1, post_here (v := .str _) s rfl q⟩
    · obtain ⟨a, ys, rfl, t, qq⟩ := h0.ok s ry
      rw [VRs.strs.mp qq] at t
      exact ⟨_, a, ws, rfl, rfl, .inl (SqL.of t), h1, post_here (v := .str _) s rfl q⟩
  case index =>
    refine ⟨_, mt_indexD hu1, fun F β S H v x vs xs Q s r rs q => ?_⟩
    unfold wMth at q
    split at q <;> first | exact q.elim | skip
    all_goals simp only [reduceCtorEq] at *
    obtain ⟨d, ds, j, z, h0, h1, h2, h3, h4, h5, h6, q⟩ := q
    obtain ⟨y, rfl, ry⟩ := one_of rs
    have hd := DV.dp s h0 r
    obtain ⟨a, rfl⟩ : ∃ a, x = .ref a := by
      cases hd; exact ⟨_, rfl⟩
    exact ⟨a, y, d, ds, j, z, rfl, rfl, hd, DV.dp s h1 ry, h2, h3, h4, h5, h6, post_here (v := .int _) s rfl q⟩
  case clear =>
    refine ⟨_, mt_clear, fun F β S H v x vs xs Q s r rs q => ?_⟩
    unfold wMth at q
    split at q <;> first | exact q.elim | skip
    all_goals simp only [reduceCtorEq] at *
    obtain ⟨zs, h0, q⟩ := q
    obtain ⟨a, ys, rfl, ha, e2, qq⟩ := loc_ok s h0 r
    cases (show xs = [] from rs)
    exact ⟨a, ys, rfl, rfl, e2, post_here (v := .non) (put_lst s h0 ha (show VRs _ _ _ [] [] from rfl)) rfl q⟩
  case remove =>
    refine ⟨_, mt_remove, fun F β S H v x vs xs Q s r rs q => ?_⟩
    unfold wMth at q
    split at q <;> first | exact q.elim | skip
    all_goals simp only [reduceCtorEq] at *
    obtain ⟨ns, j, h0, h1, h2, q⟩ := q
    obtain ⟨a, ys, rfl, ha, e2, qq⟩ := loc_ok s h0 r
    obtain ⟨y, rfl, ry⟩ := one_of rs
    cases ry
    cases VRs.ints.mp qq
    exact ⟨a, ns, _, j, rfl, rfl, e2, h1, h2, post_here (v := .non) (put_lst s h0 ha (VRs.ints.mpr rfl)) rfl q⟩
theorem few_ok {es : List Expr} {pos : Pos} {env : PySem.Env} (h1 : (backTo pos (starEach es env)).any (·.1) = false) (h2 : es.length < 28) : ((backTo pos (starEach es env)).all (fun x => !x.1) && (backToKw pos (keywordEach [] env)).all (fun x => x.1.isSome)
      && decide (es.length + ([] : List Keyword).length + (if ([] : List Keyword).isEmpty then 0 else 1) < 30)) = true := by
  have e1 : (backTo pos (starEach es env)).all (fun x => !x.1) = true := by
    rw [List.all_eq_true]
    intro x hx
    rw [List.any_eq_false] at h1
    have := h1 x hx
    simpa using this
  rw [e1]
  have e2 : (backToKw pos (keywordEach [] env)).all (fun x => x.1.isSome) = true := rfl
  rw [e2]
  simp
  omega
theorem plainB_ok {o : Expr} (h : plainB o = true) (nm : Str) (env : PySem.Env) (w : Sem Value) : attributeBase o nm env w = w := by
  cases o <;> first | rfl | cases h | skip
  rename_i f as ks p
  cases as <;> first | cases h | skip
  cases f <;> rfl
/-- a method of a built-in thing, of no arguments -/
theorem mth_call0 {m : Mf} {r : V → List V → Hp → VK → Prop} {o : Expr} {to : TE} {apos pos : Pos} (hr : MtR X (mfI m) r) (ho : PE X o to) (hb : plainB o = true) (hl : (apos.endLine == pos.line) = true) (hn : mfA m = 0) :
    PE X (.Call (.Attribute o (mfN m) apos) [] [] pos) (tBM0 X.K (mfT m) r to) := by
  have hbase := plainB_ok hb (mfN m) X.env (eval o X.env)
  cases m <;> first | cases hn | skip
  · exact pe_bm0 PySem.F.plainAttrs_list PySem.F.slot_list_pop PySem.F.type_list_pop hr ho hbase hl
  · exact pe_bm0 PySem.F.plainAttrs_list PySem.F.slot_list_clear PySem.F.type_list_clear hr ho hbase hl
/-- .. of some -/
theorem mth_call {m : Mf} {r : V → List V → Hp → VK → Prop} {o e : Expr} {es : List Expr} {to : TE} {t : TA} {apos pos : Pos} (hr : MtR X (mfI m) r) (ho : PE X o to) (ha : PA X (e :: es) t) (hb : plainB o = true) (hl : (apos.endLine == pos.line) = true)
    (hn : (e :: es).length = mfA m) (hst : (backTo pos (starEach (e :: es) X.env)).any (·.1) = false) (c1 : starEach (e :: es) X.env = (false, eval e X.env) :: starEach es X.env) (c2 : (backTo pos (starEach es X.env)).any (·.1) = false) :
    PE X (.Call (.Attribute o (mfN m) apos) (e :: es) [] pos) (tBM X.K (mfT m) r to t) := by
  have hbase := plainB_ok hb (mfN m) X.env (eval o X.env)
  have hf : ((backTo pos (starEach (e :: es) X.env)).all (fun x => !x.1) && (backToKw pos (keywordEach [] X.env)).all (fun x => x.1.isSome)
      && decide ((e :: es).length + ([] : List Keyword).length + (if ([] : List Keyword).isEmpty then 0 else 1) < 30)) = true := few_ok hst (by rw [hn]; cases m <;> decide)
  cases m
  case append => exact pe_bm PySem.F.plainAttrs_list PySem.F.slot_list_append PySem.F.type_list_append hr ho ha hbase hf hl c1 c2
  case pop => cases hn
  case extend => exact pe_bm PySem.F.plainAttrs_list PySem.F.slot_list_extend PySem.F.type_list_extend hr ho ha hbase hf hl c1 c2
  case insert => exact pe_bm PySem.F.plainAttrs_list PySem.F.slot_list_insert PySem.F.type_list_insert hr ho ha hbase hf hl c1 c2
  case join => exact pe_bm PySem.F.plainAttrs_str PySem.F.slot_str_join PySem.F.type_str_join hr ho ha hbase hf hl c1 c2
  case index => exact pe_bm PySem.F.plainAttrs_list PySem.F.slot_list_index PySem.F.type_list_index hr ho ha hbase hf hl c1 c2
  case clear => cases hn
  case remove => exact pe_bm PySem.F.plainAttrs_list PySem.F.slot_list_remove PySem.F.type_list_remove hr ho ha hbase hf hl c1 c2
end
/-! ### objects -/
section
variable {X : Cx} {CX : CXT} {n : Nat} {E : St → XK} {x m : Str} {p pos apos : Pos} {e o : Expr} {es : List Expr} {to : TE} {t : TA}
/-- a method, by what the thing turns out to be -/
def tMethD (X : Cx) (CX : CXT) (n : Nat) (E : St → XK) (m : Str) (to : TE) (t : TA) : TE := fun σ H Q => to σ H fun x H1 => ∃ (a C dx : Addr) (fs : List (Str × V)) (g : Addr) (fd : FuncData) (ps : List Str) (sp : Sp),
  x = .ref a ∧ H1 a = some (.ins C dx fs) ∧ fs.lookup m = none ∧ Cls X.K C ∧ Meth X.K C m g ∧ Binds X.K fd ps [] ∧ FnOk X.prog X.w X.K X.mg X.base CX n g fd ps sp ∧ t σ H1 fun vs H2 => sp (x :: vs) H2 Q (E σ)
theorem pe_methD {pl : Sem Bool} (hr : Room n X.A) (hx : ∀ σ, PassesAt CX X σ (E σ)) (ho : PE X o to) (ha : PA X (e :: es) t) (c1 : starEach (e :: es) X.env = (false, eval e X.env) :: starEach es X.env) (c2 : (backTo pos (starEach es X.env)).any (·.1) = false)
    (ht : eval (.Call (.Attribute o m apos) (e :: es) [] pos) X.env = (do
      let ov ← eval o X.env
      standAt apos.atName
      let (f, first) ← holding [ov] (getMethod ov m pl)
      callWith pos f first (backTo pos (starEach (e :: es) X.env)) (backToKw pos (keywordEach [] X.env)))) : PE X (.Call (.Attribute o m apos) (e :: es) [] pos) (tMethD X CX n E m to t) := by
  refine ⟨fun pins s σ H Q I h => PySem.W.methodCall_KW (pl := pl) (thn (ho.run pins s σ H _ I h) fun w s1 ⟨y, H1, I1, ry, b, C, dx, fs, g, fd, ps, sp, ey, hb, hl, hc, hm, hbi, F, q⟩ => ?_) ht⟩
  cases ey
  cases ry
  refine getmeth_ok I1 hb hc hm hl (PySem.W.callWith_K (first := [.ref b]) (h₀ := X.base) I.ok.mod.kin hm.kp (thn (ha.run pos pins s1 σ H1 _ I1 q) fun ws s2 ⟨ys, H2, I2, rs, q2⟩ => ⟨I2.kIn, ?_⟩) c1 c2)
  exact run_fnS (us := .ref b :: ws) (vs := .ref b :: ys) F hr hbi (hx σ) I2 (.cons rfl rs) q2
theorem pe_methD0 {pl : Sem Bool} (hr : Room n X.A) (hx : ∀ σ, PassesAt CX X σ (E σ)) (ho : PE X o to)
    (ht : eval (.Call (.Attribute o m apos) [] [] pos) X.env = (do
      let ov ← eval o X.env
      standAt apos.atName
      let (f, first) ← holding [ov] (getMethod ov m pl)
      callWith pos f first (backTo pos (starEach [] X.env)) (backToKw pos (keywordEach [] X.env)))) : PE X (.Call (.Attribute o m apos) [] [] pos) (tMethD X CX n E m to tNil) := by
  refine ⟨fun pins s σ H Q I h => PySem.W.methodCall_KW (pl := pl) (thn (ho.run pins s σ H _ I h) fun w s1 ⟨y, H1, I1, ry, b, C, dx, fs, g, fd, ps, sp, ey, hb, hl, hc, hm, hbi, F, q⟩ => ?_) ht⟩
  cases ey
  cases ry
  exact getmeth_ok I1 hb hc hm hl (PySem.W.callWith_K0 (first := [.ref b]) I1.kIn hm.kp (run_fnS (us := [.ref b]) (vs := [.ref b]) F hr hbi (hx σ) I1 (.cons rfl .nil) q))
/-- any thing's method, plainly written -/
theorem mcall_eq {env : PySem.Env} (hb : plainB o = true) (hl : (apos.endLine == pos.line) = true) (hf : ((backTo pos (starEach es env)).all (fun x => !x.1) && (backToKw pos (keywordEach [] env)).all (fun x => x.1.isSome) && decide (es.length + ([] : List Keyword).length + (if ([] : List Keyword).isEmpty then 0 else 1) < 30)) = true) :
    eval (.Call (.Attribute o m apos) es [] pos) env = (do
      let ov ← eval o env
      standAt apos.atName
      let (f, first) ← holding [ov] (getMethod ov m (do return (← importBound o env).getD true))
      callWith pos f first (backTo pos (starEach es env)) (backToKw pos (keywordEach [] env))) := by
  have hform : methodCallForm (es.length + ([] : List Keyword).length) (backTo pos (starEach es env)) (backToKw pos (keywordEach [] env)) = true := hf
  have hpos : methodCallPos true o env apos pos = pure pos := by unfold methodCallPos; simp [hl]
  rw [arm_eval_Call, plainB_ok hb]
  unfold methodCall
  rw [hform, hpos]
  rfl
theorem pe_mcall (hr : Room n X.A) (hx : ∀ σ, PassesAt CX X σ (E σ)) (hb : plainB o = true) (hl : (apos.endLine == pos.line) = true) (hn : (e :: es).length < 28) (h0 : (backTo pos (starEach (e :: es) X.env)).any (·.1) = false) (ho : PE X o to) (ha : PA X (e :: es) t) (c1 : starEach (e :: es) X.env = (false, eval e X.env) :: starEach es X.env) (c2 : (backTo pos (starEach es X.env)).any (·.1) = false) :
    PE X (.Call (.Attribute o m apos) (e :: es) [] pos) (tMethD X CX n E m to t) := pe_methD hr hx ho ha c1 c2 (mcall_eq hb hl (few_ok h0 hn))
theorem pe_mcall0 (hr : Room n X.A) (hx : ∀ σ, PassesAt CX X σ (E σ)) (hb : plainB o = true) (hl : (apos.endLine == pos.line) = true) (ho : PE X o to) : PE X (.Call (.Attribute o m apos) [] [] pos) (tMethD X CX n E m to tNil) :=
  pe_methD0 hr hx ho (mcall_eq hb hl rfl)
/-- what a maker must give -/
def spMk (C : Addr) (sp : Sp) (vs : List V) (H : Hp) (Q : VK) (E : XK) : Prop := ∀ x dx, H x = none → H dx = none → dx ≠ x → sp (.ref x :: vs) (upd (upd H dx (.own x)) x (.ins C dx [])) (fun v H2 => v = .non ∧ Q (.ref x) H2) E
theorem run_makeS {C f : Addr} {fd : FuncData} {ps : List Str} {sp : Sp} {pins : List (Addr × Obj)} {σ : St} {H : Hp} {s : Shared} {Q : VK} {us : List Value} {vs : List V} (M : Mk X.K C f) (F : FnOk X.prog X.w X.K X.mg X.base CX n f fd ps sp) (hr : Room (n + 1) X.A) (hb : Binds X.K fd ps [])
    (hx : PassesAt CX X σ (E σ)) (I : Inv X pins σ H s) (r : Vals vs us) (h : spMk C sp vs H Q (E σ)) : wpAny (model X.prog X.w) X.A (PySem.call (.ref C) us) (EP X pins σ Q) X.xe s := by
  have hq := h (s.heap.objs.size + 1) s.heap.objs.size (I.hok.fresh (Nat.le_succ _)) (I.hok.fresh (Nat.le_refl _)) (Nat.ne_of_lt (Nat.lt_succ_self _))
  have J := Inv.made (C := C) I
  have r2 : Vals (V.ref (s.heap.objs.size + 1) :: vs) (Value.ref (s.heap.objs.size + 1) :: us) := .cons rfl r
  have hl : (Value.ref (s.heap.objs.size + 1) :: us).length = ps.length := (r2.length.symm).trans (F.len _ _ _ _ hq)
  have b := hb _ (Value.ref (s.heap.objs.size + 1) :: us) J.kIn (by rw [List.append_nil]; exact hl)
  rw [List.append_nil] at b
  refine wpAny_call (make_map (f := f) I.kIn M.makes M.init (beq_iff_eq.mp M.fn) (codeAny_mono (F.run _ X.stack _ _ ⟨Value.ref (s.heap.objs.size + 1) :: us, []⟩ (Value.ref (s.heap.objs.size + 1) :: us) _ _ (E σ) (hr.make C us []) (J.env0.make C us []) b r2 hq) fun res s' hq' => ?_))
  cases res with
  | error er => exact hx pins _ _ er s' J hq'
  | ok fl =>
    cases fl with
    | ret u =>
      obtain ⟨v, H', I3, rv, ev, q3⟩ := J.after hq'
      cases ev
      exact ⟨rv, V.ref (s.heap.objs.size + 1), H', I3, rfl, q3⟩
    | next => exact False.elim hq'
    | brk => exact False.elim hq'
    | cont => exact False.elim hq'
theorem pe_makeS {C f : Addr} {fd : FuncData} {ps : List Str} {sp : Sp} (M : Mk X.K C f) (F : FnOk X.prog X.w X.K X.mg X.base CX n f fd ps sp) (hr : Room (n + 1) X.A) (hg : Gl X x) (hm : X.mg x = some (.ref C)) (hb : Binds X.K fd ps []) (hx : ∀ σ, PassesAt CX X σ (E σ))
    (ha : PA X (e :: es) t) (hdb : (x == ("__debug__" : Str)) = false) (c1 : starEach (e :: es) X.env = (false, eval e X.env) :: starEach es X.env) (c2 : (backTo pos (starEach es X.env)).any (·.1) = false) :
    PE X (.Call (.Name x p) (e :: es) [] pos) (fun σ H Q => t σ H fun vs H1 => spMk C sp vs H1 Q (E σ)) :=
  ⟨fun pins s σ H Q I h => wpAny_Call_Name_kw (ld_glob I hg hm (PySem.W.callWith_K (h₀ := X.base) I.ok.mod.kin M.kp (thn (ha.run pos pins s σ H _ I h) fun us s1 ⟨vs, H1, I1, r, q⟩ => ⟨I1.kIn, run_makeS M F hr hb (hx σ) I1 r q⟩) c1 c2) hdb)⟩
theorem pe_makeS0 {C f : Addr} {fd : FuncData} {ps : List Str} {sp : Sp} (M : Mk X.K C f) (F : FnOk X.prog X.w X.K X.mg X.base CX n f fd ps sp) (hr : Room (n + 1) X.A) (hg : Gl X x) (hm : X.mg x = some (.ref C)) (hb : Binds X.K fd ps []) (hx : ∀ σ, PassesAt CX X σ (E σ))
    (hdb : (x == ("__debug__" : Str)) = false) : PE X (.Call (.Name x p) [] [] pos) (fun σ H Q => spMk C sp [] H Q (E σ)) :=
  ⟨fun pins s σ H Q I h => wpAny_Call_Name_kw (ld_glob I hg hm (PySem.W.callWith_K0 I.kIn M.kp (run_makeS (us := []) M F hr hb (hx σ) I .nil h)) hdb)⟩
/-- a def's call with nothing handed over -/
theorem pe_callZ {f : Addr} {fd : FuncData} {ps : List Str} {sp : Sp} (F : FnOk X.prog X.w X.K X.mg X.base CX n f fd ps sp) (hr : Room n X.A) (hg : Gl X x) (hm : X.mg x = some (.ref f)) (kp : PySem.W.keepIn X.K (.ref f) = true) (hb : Binds X.K fd ps []) (hx : ∀ σ, PassesAt CX X σ (E σ))
    (hdb : (x == ("__debug__" : Str)) = false) : PE X (.Call (.Name x p) [] [] pos) (fun σ H Q => sp [] H Q (E σ)) :=
  ⟨fun pins s σ H Q I h => wpAny_Call_Name_kw (ld_glob I hg hm (PySem.W.callWith_K0 I.kIn kp (run_fnS (us := []) (vs := []) F hr hb (hx σ) I .nil h)) hdb)⟩
theorem run_makeO {C : Addr} {pins : List (Addr × Obj)} {σ : St} {H : Hp} {s : Shared} {Q : VK} (mk : PySem.W.makesIn X.K C = true) (ini : PySem.W.findIn X.K (.ref C) "__init__" = some (some (.builtin "object.__init__"))) (top : PySem.W.mroIn X.K C (.type "object") = some true)
    (I : Inv X pins σ H s) (h : ∀ x dx, H x = none → H dx = none → dx ≠ x → Q (.ref x) (upd (upd H dx (.own x)) x (.ins C dx []))) : wpAny (model X.prog X.w) X.A (PySem.call (.ref C) []) (EP X pins σ Q) X.xe s := by
  have hq := h (s.heap.objs.size + 1) s.heap.objs.size (I.hok.fresh (Nat.le_succ _)) (I.hok.fresh (Nat.le_refl _)) (Nat.ne_of_lt (Nat.lt_succ_self _))
  have J := Inv.made (C := C) I
  refine wpAny_call (make_map0 I.kIn mk ini (fun self => PySem.W.Looks.of_pure (PySem.W.oi_bind _)) ?_)
  have ho : ((s.heap.push PySem.W.emptyDict).push (PySem.W.instObj C s.heap.objs.size)).get? (s.heap.objs.size + 1) = some (PySem.W.instObj C s.heap.objs.size) := by
    rw [← Heap.size_push s.heap PySem.W.emptyDict]
    exact Heap.get?_push_size _ rfl
  have t1 := NwA.type_at (M := model X.prog X.w) ho rfl
  have t2 : PySem.W.Looks (model X.prog X.w) ((s.heap.push PySem.W.emptyDict).push (PySem.W.instObj C s.heap.objs.size)) (isInstance (.ref (s.heap.objs.size + 1)) (.type "object")) true := t1.andThen (PySem.W.looks_mroIn J.kIn top)
  refine codeAny_call_builtin PySem.W.oi_plain PySem.W.entry_oi (@PySem.W.check_slot (model X.prog X.w) _ _ _ "object.__init__" "object" "__init__" (.ref (s.heap.objs.size + 1)) [] [] _ PySem.W.oi_kind PySem.W.oi_split t2 (NwA.oi_args_any (.ref (s.heap.objs.size + 1)) [] []) ?_)
  rw [PySem.W.oi_run]
  exact wpAny_pure (And.intro rfl ⟨V.ref (s.heap.objs.size + 1), _, J, rfl, hq⟩)
theorem pe_makeO {C : Addr} (kp : PySem.W.keepIn X.K (.ref C) = true) (mk : PySem.W.makesIn X.K C = true) (ini : PySem.W.findIn X.K (.ref C) "__init__" = some (some (.builtin "object.__init__"))) (top : PySem.W.mroIn X.K C (.type "object") = some true) (hg : Gl X x) (hm : X.mg x = some (.ref C))
    (hdb : (x == ("__debug__" : Str)) = false) : PE X (.Call (.Name x p) [] [] pos) (fun σ H Q => ∀ x dx, H x = none → H dx = none → dx ≠ x → Q (.ref x) (upd (upd H dx (.own x)) x (.ins C dx []))) :=
  ⟨fun pins s σ H Q I h => wpAny_Call_Name_kw (ld_glob I hg hm (PySem.W.callWith_K0 I.kIn kp (run_makeO (s := s) mk ini top I h)) hdb)⟩
end
theorem lk_mem {α : Type} {x : Str} {v : α} : ∀ {l : List (Str × α)}, l.lookup x = some v → (x, v) ∈ l
  | (k, u) :: r, h => by
    rw [List.lookup_cons] at h
    cases hb : x == k with
    | true =>
      rw [hb] at h
      cases h
      have e : x = k := by simpa using hb
      rw [e]; exact List.mem_cons_self
    | false =>
      rw [hb] at h
      exact List.mem_cons_of_mem _ (lk_mem h)
theorem meth_mem {T : Tab} {c m key : Str} (h : T.meth c m = some key) : (c, m, key) ∈ T.mt := by
  unfold Tab.meth at h
  obtain ⟨p, h1, h2⟩ := Option.map_eq_some_iff.mp h
  have h3 := List.mem_of_find?_eq_some h1
  have h4 := List.find?_some h1
  obtain ⟨h5, h6⟩ := Bool.and_eq_true_iff.mp h4
  have e1 := of_decide_eq_true h5
  have e2 := of_decide_eq_true h6
  obtain ⟨a, b, d⟩ := p
  cases e1; cases e2; cases h2
  exact h3
theorem noat_mem {T : Tab} {c f : Str} (h : T.noat c f = true) : (c, f) ∈ T.na := by
  unfold Tab.noat at h
  obtain ⟨p, h1, h2⟩ := List.any_eq_true.mp h
  obtain ⟨h5, h6⟩ := Bool.and_eq_true_iff.mp h2
  have e1 := of_decide_eq_true h5
  have e2 := of_decide_eq_true h6
  obtain ⟨a, b⟩ := p
  cases e1; cases e2
  exact h1
/-! ### targets -/
theorem VR.parts {K : PySem.W.Frag} {cA : Str → Addr} {F : Hp} {β : List Addr} {S : Sto} {H : Hp} {v : Va} {x : V} {xs : List Va} (s : Sim K cA F β S H) (r : VR K F β v x) (h : partsOf S v = some xs) : ∃ a ys, x = .ref a ∧ VRs K F β xs ys ∧ (SqT K H a ys ∨ SqL K H a ys) := by
  cases v with
  | tup zs =>
    cases h
    obtain ⟨a, ys, rfl, t, q⟩ := r
    exact ⟨a, ys, rfl, q, .inl (SqT.mono s.sub t)⟩
  | lst zs =>
    cases h
    obtain ⟨a, ys, rfl, t, q⟩ := r
    exact ⟨a, ys, rfl, q, .inr (SqL.of (s.sub _ _ t))⟩
  | loc k =>
    simp only [partsOf] at h
    split at h
    · rename_i zs e
      cases h
      obtain ⟨a, ys, rfl, _, e2, q⟩ := loc_ok s e r
      exact ⟨a, ys, rfl, q, .inr (SqL.of e2)⟩
    · cases h
  | _ => cases h
section
variable (K : PySem.W.Frag) (cA : Str → Addr)
def liftG (is : List Nat) (w : Sto → Va → Env → Option Env) : TG := fun x σ H Q => ∃ F β Γ S v Γ', Sim K cA F β S H ∧ EnvR K F β Γ σ ∧ VR K F β v x ∧ w S v Γ = some Γ' ∧ ∀ σ', EnvR K F β Γ' σ' → σ'.length = σ.length → (∀ i, i ∉ is → σ'[i]? = σ[i]?) → Q σ' H
def liftGs (is : List Nat) (w : Sto → List Va → Env → Option Env) : TGs := fun x σ H Q => ∃ F β Γ S v Γ', Sim K cA F β S H ∧ EnvR K F β Γ σ ∧ VRs K F β v x ∧ w S v Γ = some Γ' ∧ ∀ σ', EnvR K F β Γ' σ' → σ'.length = σ.length → (∀ i, i ∉ is → σ'[i]? = σ[i]?) → Q σ' H
end
section
variable {c : Ctx} {cA : Str → Addr}
theorem asgn_cons {e : Expr} (h : noStar e = true) (es : List Expr) (env : PySem.Env) : assignEach (e :: es) env = (false, assign e env) :: assignEach es env := by
  cases e <;> first | rfl | cases h
theorem ckGs_len : ∀ (ts : Tgs) (es : List Expr) (env : PySem.Env), ckGs c ts es = true → (assignEach es env).length = es.length ∧ (assignEach es env).findIdx? (·.1) = none
  | .nil, es, env, h => by
    simp only [ckGs] at h
    split at h
    · exact ⟨rfl, rfl⟩
    · cases h
  | .cons t ts, es, env, h => by
    simp only [ckGs] at h
    split at h
    · obtain ⟨h, h3⟩ := ba h
      obtain ⟨h1, h2⟩ := ba h
      obtain ⟨i1, i2⟩ := ckGs_len ts _ env h3
      rw [asgn_cons h2]
      refine ⟨by simp [i1], ?_⟩
      rw [List.findIdx?_cons]
      simp [i2]
    · cases h
mutual
theorem sndG : ∀ (m : Tg) (X : Cx), X.N = c.N → X.N.Nodup → (∀ x, c.lc x = true → Loc X.env.scope x ∧ (X.fn x = true ∨ X.env.scope.names.lookup x = some .local)) → X.calm = true → ∀ (e : Expr), ckG c m e = true → PG X e (liftG X.K cA (tgS m) fun S v Γ => bindT S m v Γ)
  | .name i, X, hN, nd, hl, hc, e, h => by
    simp only [ckG] at h
    split at h
    · obtain ⟨h1, h2⟩ := ba h
      obtain ⟨l1, l2⟩ := hl _ h2
      refine (pg_name (i := i) nd (by rw [hN]; exact of_decide_eq_true h1) l1 l2).weak fun x σ H Q ⟨F, β, Γ, S, v, Γ', s, en, r, hb, q⟩ => ?_
      simp only [bindT] at hb
      cases hb
      refine q _ (en.set r) (List.length_set ..) fun j hj => ?_
      rw [List.getElem?_set_ne]
      intro e; subst e
      exact hj (by simp [tgS])
    · cases h
  | .tup ts, X, hN, nd, hl, hc, e, h => by
    simp only [ckG] at h
    split at h
    · rename_i es k p
      obtain ⟨z1, z2⟩ := ckGs_len ts _ X.env h
      have key := sndGs ts X hN nd hl hc _ h
      refine ((pg_tup (n := es.length) (k := k) (pos := p) hc key z1 z2).or (pg_lst (n := es.length) hc key z1 z2)).weak fun x σ H Q ⟨F, β, Γ, S, v, Γ', s, en, r, hb, q⟩ => ?_
      simp only [bindT] at hb
      split at hb
      · rename_i xs hp
        obtain ⟨a, ys, rfl, qq, hs⟩ := r.parts s hp
        have hlen : ys.length = es.length := by
          rw [← qq.len]; exact bindTs_len ts _ _ _ _ hb es h
        rcases hs with hs | hs
        · exact .inl ⟨a, ys, rfl, hs, hlen, F, β, Γ, S, xs, Γ', s, en, qq, hb, q⟩
        · exact .inr ⟨a, ys, rfl, hs, hlen, F, β, Γ, S, xs, Γ', s, en, qq, hb, q⟩
      · cases hb
    · cases h
theorem sndGs : ∀ (m : Tgs) (X : Cx), X.N = c.N → X.N.Nodup → (∀ x, c.lc x = true → Loc X.env.scope x ∧ (X.fn x = true ∨ X.env.scope.names.lookup x = some .local)) → X.calm = true → ∀ (e : List Expr), ckGs c m e = true → PGs X e (liftGs X.K cA (tgsS m) fun S v Γ => bindTs S m v Γ)
  | .nil, X, hN, nd, hl, hc, e, h => by
    simp only [ckGs] at h
    split at h
    · refine pgs_nil.weak fun x σ H Q ⟨F, β, Γ, S, v, Γ', s, en, r, hb, q⟩ => ?_
      cases v with
      | nil =>
        cases hb
        cases (show x = [] from r)
        exact ⟨rfl, q σ en rfl fun _ _ => rfl⟩
      | cons _ _ => cases hb
    · cases h
  | .cons t ts, X, hN, nd, hl, hc, e, h => by
    simp only [ckGs] at h
    split at h
    · obtain ⟨h, h3⟩ := ba h
      obtain ⟨h1, h2⟩ := ba h
      refine (pgs_cons (sndG t X hN nd hl hc _ h1) (sndGs ts X hN nd hl hc _ h3) (by rw [asgn_cons h2]; rfl)).weak fun x σ H Q ⟨F, β, Γ, S, v, Γ', s, en, r, hb, q⟩ => ?_
      cases v with
      | nil => cases hb
      | cons v vs =>
        obtain ⟨y, ys, rfl, r1, r2⟩ := r
        simp only [bindTs] at hb
        split at hb
        · rename_i Γ1 hb1
          refine ⟨y, ys, rfl, F, β, Γ, S, v, Γ1, s, en, r1, hb1, fun σ1 en1 l1 o1 => ⟨F, β, Γ1, S, vs, Γ', s, en1, r2, hb, fun σ2 en2 l2 o2 => ?_⟩⟩
          refine q σ2 en2 (l2.trans l1) fun i hi => ?_
          simp only [tgsS, List.mem_append, not_or] at hi
          rw [o2 i hi.2, o1 i hi.1]
        · cases hb
    · cases h
theorem bindTs_len : ∀ (ts : Tgs) (S : Sto) (xs : List Va) (Γ Γ' : Env), bindTs S ts xs Γ = some Γ' → ∀ es, ckGs c ts es = true → xs.length = es.length
  | .nil, S, [], Γ, Γ', _, es, h => by
    simp only [ckGs] at h
    split at h
    · rfl
    · cases h
  | .nil, S, _ :: _, Γ, Γ', hb, es, h => by cases hb
  | .cons t ts, S, [], Γ, Γ', hb, es, h => by cases hb
  | .cons t ts, S, x :: xs, Γ, Γ', hb, es, h => by
    simp only [ckGs] at h
    split at h
    · obtain ⟨h, h3⟩ := ba h
      simp only [bindTs] at hb
      split at hb
      · simp [bindTs_len ts S xs _ _ hb _ h3]
      · cases hb
    · cases h
end
end
theorem wipe_ext {σ σ2 : St} {vs is : List Nat} (h1 : ∀ i, i ∉ is → σ2[i]? = (wipe σ vs)[i]?) (h2 : σ2.length = (wipe σ vs).length) (h3 : ∀ i ∈ is, i ∈ vs) : wipe σ2 vs = wipe σ vs := by
  have key : ∀ (σ : St) (vs : List Nat) (i : Nat), i ∈ vs → (wipe σ vs)[i]? = if i < σ.length then some none else none := by
    intro σ vs
    induction vs with
    | nil => intro i h; cases h
    | cons v vs ih =>
      intro i h
      unfold wipe
      by_cases e : v = i
      · subst e
        by_cases hl : v < σ.length
        · rw [List.getElem?_set_self (by rw [wipe_length]; exact hl), if_pos hl]
        · rw [List.getElem?_eq_none (by rw [List.length_set, wipe_length]; omega), if_neg hl]
      · rw [List.getElem?_set_ne e]
        rcases List.mem_cons.mp h with z | z
        · exact absurd z.symm e
        · exact ih i z
  rw [wipe_length] at h2
  apply List.ext_getElem?
  intro i
  by_cases hi : i ∈ vs
  · rw [key σ2 vs i hi, key σ vs i hi, h2]
  · rw [wipe_out hi, h1 i fun z => hi (h3 i z)]
theorem wipe_wipe {σ σ2 : St} {own is : List Nat} (h1 : ∀ i, i ∉ is → σ2[i]? = (L2.wipe σ own)[i]?) (h2 : σ2.length = (L2.wipe σ own).length) (h3 : ∀ i ∈ is, i ∈ own) : L2.wipe σ2 own = L2.wipe σ own := wipe_ext h1 h2 h3
theorem EnvR.wipe {K : PySem.W.Frag} {F : Hp} {β : List Addr} {Γ : Env} {σ : St} (h : EnvR K F β Γ σ) : ∀ vs : List Nat, EnvR K F β (wipeA Γ vs) (L2.wipe σ vs)
  | [] => h
  | v :: vs => (EnvR.wipe h vs).wipe1
/-! ### walks -/
section
variable {K : PySem.W.Frag} {cA : Str → Addr} {F : Hp} {β : List Addr} {xs : List Va} {J : L2.It} {GH : Hp → Prop} {G : Sto → Prop}
theorem itok_w {n : Nat} (hn : n = xs.length) (h : ∀ F' β' S H, Ext F β F' β' → Sim K cA F' β' S H → G S → ∃ GH Y, Walk J n GH Y ∧ GH H ∧ ∀ i x H', i < n → Y i H x H' → ∃ F2 v, xs[i]? = some v ∧ Ext F' β' F2 β' ∧ Sim K cA F2 β' S H' ∧ VR K F2 β' v x) : ItOk K cA F β J xs G where
  go := fun F' β' S H i e s g hi => let ⟨_, _, w, q, _⟩ := h F' β' S H e s g; w.goes i H (by omega) q
  stop := fun F' β' S H e s g => let ⟨_, _, w, q, _⟩ := h F' β' S H e s g; by rw [← hn]; exact w.stops H q
  yld := fun F' β' S H i x H' e s g hi y => let ⟨_, _, w, q, z⟩ := h F' β' S H e s g; z i x H' (by omega) (w.yields i H x H' (by omega) q y)
theorem pair_yl {a b : Nat → Option V} {S : Sto} {H H' : Hp} {i : Nat} {x : V} (s : Sim K cA F β S H) (y : YPair a b i H x H') (hf : ∀ p q, a i = some p → b i = some q → ∃ v u, xs[i]? = some (.tup [v, u]) ∧ VR K F β v p ∧ VR K F β u q) :
    ∃ F2 v, xs[i]? = some v ∧ Ext F β F2 β ∧ Sim K cA F2 β S H' ∧ VR K F2 β v x := by
  obtain ⟨T, p, q, rfl, hT, rfl, h1, h2⟩ := y
  obtain ⟨v, u, h3, r1, r2⟩ := hf p q h1 h2
  obtain ⟨s2, sb⟩ := s.lay hT (.tup [p, q])
  have e2 : Ext F β (upd F T (.tup [p, q])) β := ⟨sb, List.prefix_refl _⟩
  exact ⟨_, .tup [v, u], h3, e2, s2, T, [p, q], rfl, SqT.of upd_same, p, [q], rfl, r1.ext e2, q, [], rfl, r2.ext e2, rfl⟩
theorem VRs.at {ys : List V} {i : Nat} (q : VRs K F β xs ys) {x : V} (h : ys[i]? = some x) : ∃ v, xs[i]? = some v ∧ VR K F β v x := by
  have hi : i < xs.length := by rw [q.len]; exact lt_of_get h
  obtain ⟨z, h1, h2⟩ := q.get (i := i) (v := xs[i]) (by simp [hi])
  rw [h] at h1
  cases h1
  exact ⟨xs[i], by simp [hi], h2⟩
/-- where a list stands, while G -/
def LAt (K : PySem.W.Frag) (cA : Str → Addr) (F : Hp) (β : List Addr) (a : Addr) (xs : List Va) (G : Sto → Prop) : Prop := ∀ F' β' S H, Ext F β F' β' → Sim K cA F' β' S H → G S → ∃ ys, SqL K H a ys ∧ VRs K F' β' xs ys
theorem itok_l {a : Addr} (h : LAt K cA F β a xs G) (ys : List V) (hy : VRs K F β xs ys) : ItOk K cA F β (Itl K a) xs G := by
  refine itok_w (n := ys.length) hy.len.symm fun F' β' S H e s g => ?_
  obtain ⟨zs, q, r⟩ := h F' β' S H e s g
  have hl : ys.length = zs.length := by rw [← hy.len, r.len]
  rw [hl]
  refine ⟨_, _, walk_list (xs := zs), q, fun i x H' hi ⟨e1, e2⟩ => ?_⟩
  subst e1
  obtain ⟨v, h1, h2⟩ := r.at e2
  exact ⟨F', v, h1, Ext.refl _ _, s, h2⟩
theorem itok_t {a : Addr} {ys : List V} (h : SqT K F a ys) (hy : VRs K F β xs ys) : ItOk K cA F β (Itt K a) xs fun _ => True := by
  refine itok_w (n := ys.length) hy.len.symm fun F' β' S H e s g => ?_
  refine ⟨_, _, walk_tup (xs := ys), SqT.mono s.sub (SqT.mono e.sub h), fun i x H' hi ⟨e1, e2⟩ => ?_⟩
  subst e1
  obtain ⟨v, h1, h2⟩ := (hy.ext e).at e2
  exact ⟨F', v, h1, Ext.refl _ _, s, h2⟩
theorem itok_s {z : Str} : ItOk K cA F β (Its z) (z.cps.toList.map fun c => Va.str ⟨#[c]⟩) fun _ => True := by
  refine itok_w (n := z.cps.size) (by simp) fun F' β' S H e s g => ?_
  refine ⟨_, _, walk_str, trivial, fun i x H' hi ⟨e1, c, e2, e3⟩ => ?_⟩
  subst e1 e3
  refine ⟨F', .str ⟨#[c]⟩, ?_, Ext.refl _ _, s, rfl⟩
  rw [List.getElem?_map, Array.getElem?_toList, e2]; rfl
theorem itok_r {lo : Int} {n : Nat} : ItOk K cA F β (Itr lo n) (rangeV lo n) fun _ => True := by
  refine itok_w (n := n) (by simp [rangeV]) fun F' β' S H e s g => ?_
  refine ⟨_, _, walk_range, trivial, fun i x H' hi ⟨e1, e2⟩ => ?_⟩
  subst e1 e2
  refine ⟨F', .int (lo + i), ?_, Ext.refl _ _, s, rfl⟩
  unfold rangeV
  rw [List.getElem?_map, List.getElem?_range hi]; rfl
theorem itok_v {a : Addr} (h : LAt K cA F β a xs G) (ys : List V) (hy : VRs K F β xs ys) : ItOk K cA F β (Itv K a ys.length) xs.reverse G := by
  refine itok_w (n := ys.length) (by rw [List.length_reverse, hy.len]) fun F' β' S H e s g => ?_
  obtain ⟨zs, q, r⟩ := h F' β' S H e s g
  have hl : ys.length = zs.length := by rw [← hy.len, r.len]
  rw [hl]
  refine ⟨_, _, walk_rev (xs := zs), q, fun i x H' hi ⟨e1, e2⟩ => ?_⟩
  subst e1
  obtain ⟨v, h1, h2⟩ := r.at e2
  refine ⟨F', v, ?_, Ext.refl _ _, s, h2⟩
  rw [List.getElem?_reverse (by rw [r.len]; exact hi), r.len]; exact h1
theorem enumV_get : ∀ (xs : List Va) (n i : Nat) (v : Va), xs[i]? = some v → (enumV n xs)[i]? = some (.tup [.int ((n + i : Nat) : Int), v])
  | [], _, _, _, h => by simp at h
  | x :: xs, n, 0, v, h => by
    have e : x = v := by simpa using h
    subst e
    rfl
  | x :: xs, n, i + 1, v, h => by
    have := enumV_get xs (n + 1) i v (by simpa using h)
    simp only [enumV, List.getElem?_cons_succ]
    rw [this]
    congr 5
    omega
theorem enumV_len : ∀ (xs : List Va) (n : Nat), (enumV n xs).length = xs.length
  | [], _ => rfl
  | x :: xs, n => by simp [enumV, enumV_len xs]
theorem itok_e {a : Addr} (h : LAt K cA F β a xs G) (ys : List V) (hy : VRs K F β xs ys) : ItOk K cA F β (Ite K a) (enumV 0 xs) G := by
  refine itok_w (n := ys.length) (by rw [enumV_len, hy.len]) fun F' β' S H e s g => ?_
  obtain ⟨zs, q, r⟩ := h F' β' S H e s g
  have hl : ys.length = zs.length := by rw [← hy.len, r.len]
  rw [hl]
  refine ⟨_, _, walk_enum (xs := zs), q, fun i x H' hi y => pair_yl s y fun p q hp hq => ?_⟩
  cases hp
  obtain ⟨v, h1, h2⟩ := r.at hq
  refine ⟨.int (i : Nat), v, ?_, rfl, h2⟩
  rw [enumV_get xs 0 i v h1, Nat.zero_add]
theorem zipV_get : ∀ (xs ys : List Va) (i : Nat) (v u : Va), xs[i]? = some v → ys[i]? = some u → (zipV xs ys)[i]? = some (.tup [v, u])
  | [], _, _, _, _, h, _ => by simp at h
  | _ :: _, [], _, _, _, _, h => by simp at h
  | x :: xs, y :: ys, 0, v, u, h, h' => by
    have e : x = v := by simpa using h
    have e' : y = u := by simpa using h'
    subst e e'
    rfl
  | x :: xs, y :: ys, i + 1, v, u, h, h' => by
    simp only [zipV, List.getElem?_cons_succ]
    exact zipV_get xs ys i v u (by simpa using h) (by simpa using h')
theorem zipV_len : ∀ (xs ys : List Va), (zipV xs ys).length = min xs.length ys.length
  | [], ys => by simp [zipV]
  | _ :: _, [] => by simp [zipV]
  | x :: xs, y :: ys => by simp [zipV, zipV_len xs ys]
theorem itok_z {a b : Addr} {us : List Va} {G' : Sto → Prop} (h : LAt K cA F β a xs G) (ys : List V) (hy : VRs K F β xs ys) (h' : LAt K cA F β b us G') (ys' : List V) (hy' : VRs K F β us ys') : ItOk K cA F β (Itz K a b) (zipV xs us) fun S => G S ∧ G' S := by
  refine itok_w (n := min ys.length ys'.length) (by rw [zipV_len, hy.len, hy'.len]) fun F' β' S H e s ⟨g, g'⟩ => ?_
  obtain ⟨zs, q, r⟩ := h F' β' S H e s g
  obtain ⟨ws, q', r'⟩ := h' F' β' S H e s g'
  have hl : ys.length = zs.length := by rw [← hy.len, r.len]
  have hl' : ys'.length = ws.length := by rw [← hy'.len, r'.len]
  rw [hl, hl']
  refine ⟨_, _, walk_zip (xs := zs) (ys := ws) rfl, ⟨q, q'⟩, fun i x H' hi y => pair_yl s y fun p q hp hq => ?_⟩
  obtain ⟨v, h1, h2⟩ := r.at hp
  obtain ⟨u, h3, h4⟩ := r'.at hq
  exact ⟨v, u, zipV_get _ _ _ _ _ h1 h3, h2, h4⟩
theorem ItOk.ext {F' : Hp} {β' : List Addr} (h : ItOk K cA F β J xs G) (e : Ext F β F' β') : ItOk K cA F' β' J xs G :=
  ⟨fun F2 β2 S H i e2 => h.go F2 β2 S H i (e.trans e2), fun F2 β2 S H e2 => h.stop F2 β2 S H (e.trans e2), fun F2 β2 S H i x H' e2 => h.yld F2 β2 S H i x H' (e.trans e2)⟩
theorem LAt.ext {F' : Hp} {β' : List Addr} {a : Addr} (h : LAt K cA F β a xs G) (e : Ext F β F' β') : LAt K cA F' β' a xs G := fun F2 β2 S H e2 => h F2 β2 S H (e.trans e2)
/-- what a list to be walked is -/
theorem wLst_ok {S : Sto} {H : Hp} {v : Va} {x : V} {P : PI_} (s : Sim K cA F β S H) (r : VR K F β v x) (h : wLst v S P) :
    ∃ a ys xs G, x = .ref a ∧ SqL K H a ys ∧ VRs K F β xs ys ∧ LAt K cA F β a xs G ∧ P xs G S := by
  unfold wLst at h
  split at h <;> first | exact h.elim | skip
  · obtain ⟨a, ys, rfl, t, q⟩ := r
    exact ⟨a, ys, _, _, rfl, SqL.of (s.sub _ _ t), q, fun F' β' S H e s _ => ⟨ys, SqL.of (s.sub _ _ (e.sub _ _ t)), q.ext e⟩, h⟩
  · obtain ⟨a, rfl, t⟩ := r
    exact ⟨a, _, _, _, rfl, SqL.mono s.sub t, VRs.ints.mpr rfl, fun F' β' S H e s _ => ⟨_, SqL.mono s.sub (SqL.mono e.sub t), VRs.ints.mpr rfl⟩, h⟩
  · obtain ⟨zs, h0, h⟩ := h
    obtain ⟨a, ys, rfl, t, e2, q⟩ := loc_ok s h0 r
    refine ⟨a, ys, zs, _, rfl, SqL.of e2, q, fun F' β' S' H' e s' g => ?_, h⟩
    obtain ⟨a', ys', e3, t', e4, q'⟩ := loc_ok s' g (x := .ref a) ⟨a, rfl, pre_get e.pre t⟩
    cases e3
    exact ⟨ys', SqL.of e4, q'⟩
/-- what is walked by itself -/
theorem wSeq_ok {S : Sto} {H : Hp} {v : Va} {x : V} {P : PI_} (s : Sim K cA F β S H) (r : VR K F β v x) (h : wSeq v S P) :
    ∃ xs G, ((∃ a ys, x = .ref a ∧ SqL K H a ys ∧ ItOk K cA F β (Itl K a) xs G) ∨ (∃ a ys, x = .ref a ∧ SqT K H a ys ∧ ItOk K cA F β (Itt K a) xs G) ∨ ∃ z, x = .str z ∧ ItOk K cA F β (Its z) xs G) ∧ P xs G S := by
  have key : wLst v S P → ∃ xs G, ((∃ a ys, x = .ref a ∧ SqL K H a ys ∧ ItOk K cA F β (Itl K a) xs G) ∨ (∃ a ys, x = .ref a ∧ SqT K H a ys ∧ ItOk K cA F β (Itt K a) xs G) ∨ ∃ z, x = .str z ∧ ItOk K cA F β (Its z) xs G) ∧ P xs G S := fun h => by
    obtain ⟨a, ys, xs, G, e, q, r, l, p⟩ := wLst_ok s r h
    exact ⟨xs, G, .inl ⟨a, ys, e, q, itok_l l ys r⟩, p⟩
  cases v with
  | lst xs => exact key h
  | scr ns => exact key h
  | loc k => exact key h
  | tup xs =>
    obtain ⟨a, ys, rfl, t, q⟩ := r
    exact ⟨xs, _, .inr (.inl ⟨a, ys, rfl, SqT.mono s.sub t, itok_t t q⟩), h⟩
  | str z =>
    cases r
    exact ⟨_, _, .inr (.inr ⟨z, rfl, itok_s⟩), h⟩
  | _ => exact h.elim
end
theorem pi_seqA {X : Cx} {tg e : Expr} {te : TE} (he : PE X e te) : PI X tg e (fun σ H R => te σ H fun x H1 => (∃ a ys, x = .ref a ∧ SqL X.K H1 a ys ∧ R (Itl X.K a) H1) ∨ (∃ a ys, x = .ref a ∧ SqT X.K H1 a ys ∧ R (Itt X.K a) H1) ∨ ∃ z, x = .str z ∧ R (Its z) H1) := by
  refine ⟨fun pins s σ H R I h => thn (he.run pins s σ H _ I h) fun v s1 ⟨x, H1, I1, r1, q1⟩ => ?_⟩
  rcases q1 with ⟨a, ys, rfl, hq, q⟩ | ⟨a, ys, rfl, hq, q⟩ | ⟨z, rfl, q⟩
  · cases r1
    obtain ⟨its, rv, p, hz⟩ := I1.list hq
    exact wpAny_pyIter_list p.isList (pi_one (tk := s1.toks) I1 _ (turn_list a _) ⟨_, Heap.get?_push_size _ rfl, rfl, rfl⟩ q)
  · cases r1
    obtain ⟨its, rv, p, hz⟩ := I1.tuple hq
    exact wpAny_pyIter_tuple (show s1.heap.IsTuple a its.toArray from p) (pi_one (tk := s1.toks) I1 _ (turn_tuple a _) ⟨_, Heap.get?_push_size _ rfl, rfl, rfl⟩ q)
  · obtain ⟨t, rfl⟩ := r1
    cases hz : z.cps.all (· < 128)
    · exact wpAny_pyIter_wide hz (pi_one (tk := s1.toks) I1 _ (turn_str _ z t "str_iterator" (.inr rfl)) ⟨_, Heap.get?_push_size _ rfl, rfl, rfl⟩ q)
    · exact wpAny_pyIter_ascii hz (pi_one (tk := s1.toks) I1 _ (turn_str _ z t "str_ascii_iterator" (.inl rfl)) ⟨_, Heap.get?_push_size _ rfl, rfl, rfl⟩ q)
theorem any_star {c : Ctx} : ∀ (ms : Exs) (es : List Expr) (pos : Pos) (env : PySem.Env), ckL c ms es = true → (backTo pos (starEach es env)).any (·.1) = false
  | .nil, es, pos, env, h => by
    simp only [ckL] at h
    split at h
    · rfl
    · cases h
  | .cons m ms, es, pos, env, h => by
    simp only [ckL] at h
    split at h
    · obtain ⟨h, h3⟩ := ba h
      obtain ⟨h1, h2⟩ := ba h
      rw [star_cons h2]
      have := any_star ms _ pos env h3
      simpa [backTo] using this
    · cases h

theorem ckL_first {c : Ctx} (es : Exs) (e1 : Expr) (es' : List Expr) (pos : Pos) (env : PySem.Env) (h3 : ckL c es (e1 :: es') = true) : starEach (e1 :: es') env = (false, eval e1 env) :: starEach es' env ∧ (backTo pos (starEach es' env)).any (·.1) = false := by
  cases es with
  | nil => simp only [ckL] at h3; cases h3
  | cons m ms =>
    simp only [ckL] at h3
    obtain ⟨h3, h5⟩ := ba h3
    exact ⟨star_cons (ba h3).2 _ _, any_star ms _ _ _ h5⟩
theorem ckI_fold {c : Ctx} {m : It} {tg e : Expr} (h : ckI c m tg e = true) (env : PySem.Env) : ∀ x, foldedSetIterable e env x = pure x := by
  have key : noSet e = true → ∀ x, foldedSetIterable e env x = pure x := fun h x => by
    cases e <;> first | rfl | cases h
  cases m
  case seq m =>
    simp only [ckI] at h
    exact key (ba h).2
  all_goals
    simp only [ckI] at h
    split at h
    · intro x; rfl
    · cases h
theorem ownA_ix (N : List Str) (own : List Nat) : (ownA N own).map (·.2) = own := by
  unfold ownA
  rw [List.map_map]
  exact List.map_id' own
theorem Gd.u65 {c : Ctx} {cA : Str → Addr} {T : Tab} {k : Nat} {Wx : WX} {X : Cx} (g : Gd c cA T k Wx X) : X.A.units + 65 < cLine := by
  have := g.room.un
  omega
theorem isa_mem {T : Tab} {c x : Str} {b : Bool} (h : T.isa c x = some b) : (c, x, b) ∈ T.ia := by
  unfold Tab.isa at h
  cases hf : T.ia.find? fun p => decide (p.1 = c) && decide (p.2.1 = x) with
  | none => rw [hf] at h; cases h
  | some p =>
    rw [hf] at h
    have h1 := List.find?_some hf
    have h2 := List.mem_of_find?_eq_some hf
    obtain ⟨p1, p2, p3⟩ := p
    simp only [Bool.and_eq_true, decide_eq_true_eq] at h1
    obtain ⟨rfl, rfl⟩ := h1
    cases h
    exact h2
theorem clsIs_ok {C : Orc} {x : Str} {ob : Ob} {b : Bool} (h : clsIs C x ob = some b) : ∃ c fs, ob = .ins c fs ∧ C.isa c x = some b := by
  cases ob with
  | ins c fs => exact ⟨c, fs, rfl, h⟩
  | _ => cases h
theorem fldO_ok {C : Orc} {f : Str} {ob : Ob} {u : Va} (h : fldO C f ob = some u) : ∃ c fs, ob = .ins c fs ∧ C.noat c f = true ∧ fs.lookup f = some u := by
  cases ob with
  | ins c fs =>
    simp only [fldO] at h
    split at h
    · rename_i hn; exact ⟨c, fs, rfl, hn, h⟩
    · cases h
  | _ => cases h
theorem mkey_ok {C : Orc} {m : Str} {ob : Ob} {u : Str} (h : mkey C m ob = some u) : ∃ c fs, ob = .ins c fs ∧ fs.lookup m = none ∧ C.meth c m = some u := by
  cases ob with
  | ins c fs =>
    simp only [mkey] at h
    split at h
    · rename_i hn; exact ⟨c, fs, rfl, hn, h⟩
    · cases h
  | _ => cases h
theorem ckP_len {c : Ctx} : ∀ (m : Exs) (ks : List (Option Expr)) (vs : List Expr), ckP c m ks vs = true → ks.all (·.isSome) = true ∧ ks.length = vs.length
  | .nil, [], [], _ => ⟨rfl, rfl⟩
  | .nil, [], _ :: _, h => by simp [ckP] at h
  | .nil, _ :: _, _, h => by simp [ckP] at h
  | .cons m1 .nil, ks, vs, h => by simp [ckP] at h
  | .cons m1 (.cons m2 r), some k' :: ks, v' :: vs, h => by
    have h := show (ckE c m1 k' && ckE c m2 v' && ckP c r ks vs) = true from h
    obtain ⟨i1, i2⟩ := ckP_len r ks vs (ba h).2
    exact ⟨by rw [List.all_cons, i1]; rfl, by rw [List.length_cons, List.length_cons, i2]⟩
  | .cons m1 (.cons m2 r), [], _, h => by simp [ckP] at h
  | .cons m1 (.cons m2 r), none :: _, _, h => by simp [ckP] at h
  | .cons m1 (.cons m2 r), some _ :: _, [], h => by simp [ckP] at h
theorem m1_ok {X : Cx} {o e : Expr} {m : Str} {apos pos : Pos} (hb : plainB o = true) (hs : noStar e = true) (hl : (apos.endLine == pos.line) = true) : M1 X o m apos e pos where
  base := plainB_ok hb _ _ _
  few := few_ok (by rw [star_cons hs]; rfl) (by show 1 < 28; decide)
  line := hl
  trees := by rw [star_cons hs]; rfl
theorem m2_ok {X : Cx} {o e f : Expr} {m : Str} {apos pos : Pos} (hb : plainB o = true) (hs : noStar e = true) (hs2 : noStar f = true) (hl : (apos.endLine == pos.line) = true) : M2 X o m apos e f pos where
  base := plainB_ok hb _ _ _
  few := few_ok (by rw [star_cons hs, star_cons hs2]; rfl) (by show 2 < 28; decide)
  line := hl
  trees := by rw [star_cons hs, star_cons hs2]; rfl
/-- a written dict asked -/
theorem pe_kget2 {X : Cx} {x : Str} {e f : Expr} {ty tx : TE} {p apos cpos : Pos} (hg : Gl X x) (hdb : (x == ("__debug__" : Str)) = false) (he : PE X e ty) (hf : PE X f tx) (m : M2 X (.Name x p) "get" apos e f cpos) :
    PE X (.Call (.Attribute (.Name x p) "get" apos) [e, f] [] cpos) (fun σ H Q => ∃ A es n, X.mg x = some (.ref A) ∧ KDict X.K X.w A es n ∧ ty σ H fun y H1 => tx σ H1 fun z H2 => ∃ s r, y = .str s ∧ PySem.W.nsIn X.K A s = some r ∧ ((r = none ∧ Q z H2) ∨ ∃ u v, r = some u ∧ RelV v u ∧ Q v H2)) := by
  refine ⟨fun pins s σ H Q I ⟨A, es, n, hm, D, h⟩ => ?_⟩
  refine wpAny_Call_method m.base m.few m.line PySem.F.plainAttrs_dict PySem.F.slot_dict_get PySem.F.type_dict_get (ld_glob I hg hm ?_ hdb)
  refine ⟨kd_type D I, fun b z => by cases z; exact ⟨_, I.kIn _ _ D.at_, rfl⟩, ?_⟩
  rw [m.trees]
  have fin : ∀ {s' : Shared} {H' : Hp} {k' z : V} {kv zv : Value}, Inv X pins σ H' s' → RelV k' kv → RelV z zv → (∃ w r, k' = .str w ∧ PySem.W.nsIn X.K A w = some r ∧ ((r = none ∧ Q z H') ∨ ∃ u v, r = some u ∧ RelV v u ∧ Q v H')) → wpAny (model X.prog X.w) X.A (PySem.call (.builtin "dict.get") [.ref A, kv, zv]) (EP X pins σ Q) X.xe s' := fun {s' H' k' z kv zv} I' rk rz ⟨w, r, ek, hr, hq⟩ => by
    subst ek
    obtain ⟨t, rfl⟩ := rk
    have M := PySem.W.mapOf_K (prog := X.prog) (w := X.w) I'.kIn D.at_ D.lit
    have hfind := PySem.W.find_K D.at_ hr
    refine call_meetsIn PySem.F.slot_dict_get M.typeIs PySem.F.entry_dict_get (PySem.F.args_dict_get_3 _ _ _) (meets_dict_get_default (strKind X.prog X.w) A (PySem.strKind_is X.prog X.w w t) D.low zv) ⟨_, M, ?_⟩
    rw [hfind]
    rcases hq with ⟨e1, q⟩ | ⟨u, v, e1, rv, q⟩
    · subst e1
      exact ⟨z, H', I'.tok _, rz, q⟩
    · subst e1
      exact ⟨v, H', I'.tok _, rv, q⟩
  exact Calls.callWith_builtin rfl (Calls.evalArgs_plain (Calls.spliced_cons (thn (he.run pins s σ H _ I h) fun k1 s1 ⟨_, _, I1, r1, h1⟩ =>
    Calls.spliced_cons (thn (hf.run pins s1 σ _ _ I1 h1) fun k2 s2 ⟨_, _, I2, r2, w, r, ek, hr, hq⟩ => Calls.spliced_nil (fin I2 (by subst ek; exact r1) r2 ⟨w, r, rfl, hr, hq⟩)))))
/-- a comprehension's turns -/
theorem comp_ok {K : PySem.W.Frag} {cA : Str → Addr} {C : Orc} (hC : OrcMono C) {F F1 : Hp} {β β1 : List Addr} {S1 : Sto} {H1 : Hp} {Γ : Env} {σ : St} {J : L2.It} {xs : List Va} {G : Sto → Prop} {Q : VK} {own : List Nat} {elt : Ex} {tg : Tg} {cond : Tes0}
    (e1 : Ext F β F1 β1) (s1 : Sim K cA F1 β1 S1 H1) (en : EnvR K F1 β1 Γ σ) (i1 : ItOk K cA F1 β1 J xs G)
    (q : G (S1 ++ [.lst []]) ∧ cpL (fun x S => bindT S tg x (wipeA Γ own)) (fun Γ S Q => WT0 C cond Γ S Q) (fun Γ S Q => W C elt Γ S Q (fun _ _ => False)) G S1.length (post K cA F β Q) xs (S1 ++ [.lst []])) (hin : ∀ i ∈ tgS tg, i ∈ own) :
    ∀ D, H1 D = none → ∃ Wd : Nat → Nat → Hp → Prop, (∃ m, Wd 0 m (upd H1 D (.lst []))) ∧ ∀ i m H, Wd i m H →
      (J.stop i H ∧ Q (.ref D) H) ∨ (J.go i H ∧ ∃ Nx : Hp → Prop, (∀ H', Nx H' → ∃ m', m' < m ∧ Wd (i + 1) m' H') ∧ ∀ x H', J.yld i H x H' → liftG K cA (tgS tg) (fun S v Γ => bindT S tg v Γ) x (wipe σ own) H' fun σ2 H2 => wipe σ2 own = wipe σ own ∧
        liftT K cA (fun _ _ _ _ => False) (fun Γ S P _ => WT0 C cond Γ S P) σ2 H2 fun b H3 => if b = true then liftE K cA (fun _ _ _ _ => False) (W C elt) σ2 H3 fun y H4 => ∃ acc, H4 D = some (.lst acc) ∧ acc.length < sizeLine ∧ Nx (upd H4 D (.lst (acc ++ [y]))) else Nx H3) := by
  intro D hD
  have s2 := s1.new hD (o := .lst []) (u := .lst []) ⟨[], upd_same, rfl⟩
  have eD : Ext F1 β1 F1 (β1 ++ [D]) := ⟨Same.refl _, List.prefix_append _ _⟩
  have atD : (β1 ++ [D])[S1.length]? = some D := by rw [← s1.len]; simp
  obtain ⟨q1, q2⟩ := q
  refine ⟨fun i m H => m = xs.length - i ∧ i ≤ xs.length ∧ ∃ F' β' S', Ext F1 (β1 ++ [D]) F' β' ∧ Sim K cA F' β' S' H ∧ G S' ∧ cpL (fun x S => bindT S tg x (wipeA Γ own)) (fun Γ S Q => WT0 C cond Γ S Q) (fun Γ S Q => W C elt Γ S Q (fun _ _ => False)) G S1.length (post K cA F β Q) (xs.drop i) S',
    ⟨xs.length, rfl, Nat.zero_le _, F1, β1 ++ [D], S1 ++ [Ob.lst []], Ext.refl _ _, s2, q1, by exact q2⟩, ?_⟩
  rintro i m H ⟨rfl, hi, F', β', S', e', s', g', c'⟩
  have eJ : Ext F1 β1 F' β' := eD.trans e'
  by_cases hlt : i < xs.length
  · refine .inr ⟨i1.go F' β' S' H i eJ s' g' hlt, fun H' => ∃ F' β' S', Ext F1 (β1 ++ [D]) F' β' ∧ Sim K cA F' β' S' H' ∧ G S' ∧ cpL (fun x S => bindT S tg x (wipeA Γ own)) (fun Γ S Q => WT0 C cond Γ S Q) (fun Γ S Q => W C elt Γ S Q (fun _ _ => False)) G S1.length (post K cA F β Q) (xs.drop (i + 1)) S',
      fun H' z => ⟨xs.length - (i + 1), by omega, rfl, hlt, z⟩, fun x H' hy => ?_⟩
    obtain ⟨F2, v, hv, e2, s2, r2⟩ := i1.yld F' β' S' H i x H' eJ s' g' hlt hy
    have hd : xs.drop i = v :: xs.drop (i + 1) := by
      rw [List.drop_eq_getElem_cons hlt]
      rw [List.getElem?_eq_getElem hlt] at hv
      cases hv; rfl
    rw [hd] at c'
    obtain ⟨Γ1, hb, ht⟩ := c'
    refine ⟨F2, β', wipeA Γ own, S', v, Γ1, s2, (en.ext (eJ.trans e2)).wipe own, r2, hb, fun σ2 en2 l2 o2 => ⟨wipe_wipe o2 l2 hin, F2, β', Γ1, S', s2, en2, WT0_mono hC cond _ _ _ _ (fun b S3 q3 F3 β3 H3 e3 s3 => ?_) ht⟩⟩
    cases b with
    | false => exact ⟨F3, β3, S3, (e'.trans e2).trans e3, s3, q3⟩
    | true =>
      refine ⟨F3, β3, Γ1, S3, s3, en2.ext e3, W_mono hC elt _ _ _ _ _ _ (fun y S4 ⟨acc, h1, h2, h3, h4⟩ F4 β4 H4 z e4 s4 r4 => ?_) (fun _ _ z => z.elim) q3⟩
      have eD4 : Ext F1 (β1 ++ [D]) F4 β4 := ((e'.trans e2).trans e3).trans e4
      have aD : β4[S1.length]? = some D := pre_get eD4.pre atD
      obtain ⟨a, ys, ea, ta, e5, q5⟩ := loc_ok s4 h1 (x := .ref D) ⟨D, rfl, aD⟩
      cases ea
      refine ⟨ys, e5, by rw [← q5.len]; exact Nat.lt_trans h2 (by decide), F4, β4, _, eD4, put_lst s4 h1 aD (VRs.append q5 (VRs.one r4)), h3, h4⟩
  · have ei : i = xs.length := by omega
    subst ei
    refine .inl ⟨i1.stop F' β' S' H eJ s' g', ?_⟩
    rw [List.drop_length] at c'
    exact c' F' β' H (.ref D) (e1.trans eJ) s' ⟨D, rfl, pre_get e'.pre atD⟩
section
variable {c : Ctx} {cA : Str → Addr} {T : Tab} {k : Nat}
mutual
theorem sndE : ∀ (c : Ctx) (m : Ex) (X : Cx) (Wx : WX), Gd c cA T k Wx X → ∀ (e : Expr), ckE c m e = true → PE X e (liftE X.K cA Wx (W (orc T k) m))
  | c, .var i, X, Wx, g, e, h => by
    simp only [ckE] at h
    split at h
    · obtain ⟨h1, h2⟩ := ba h
      refine (pe_var (i := i) (by rw [g.hN]; exact of_decide_eq_true h1) (g.vis _ h2) ?_ ?_).weak fun σ H Q ⟨F, β, Γ, S, s, en, v, hv, q⟩ => ?_
      · have := (ba (ba h2).1).2; simpa using this
      · have := (ba h2).2; simpa using this
      · obtain ⟨x, e1, r⟩ := en.get hv
        exact ⟨x, e1, post_here s r q⟩
    · cases h
  | c, .int i, X, Wx, g, e, h => by
    simp only [ckE] at h
    split at h
    · have := of_decide_eq_true h
      subst this
      exact pe_int.weak fun σ H Q ⟨F, β, Γ, S, s, en, q⟩ => post_here (v := .int _) s rfl q
    · cases h
  | c, .bl b, X, Wx, g, e, h => by
    simp only [ckE] at h
    split at h
    · have := of_decide_eq_true h
      subst this
      exact pe_bl.weak fun σ H Q ⟨F, β, Γ, S, s, en, q⟩ => post_here (v := .bl _) s rfl q
    · cases h
  | c, .non, X, Wx, g, e, h => by
    simp only [ckE] at h
    split at h
    · exact pe_non.weak fun σ H Q ⟨F, β, Γ, S, s, en, q⟩ => post_here (v := .non) s rfl q
    · cases h
  | c, .str x, X, Wx, g, e, h => by
    simp only [ckE] at h
    split at h
    · have := of_decide_eq_true h
      subst this
      exact pe_str.weak fun σ H Q ⟨F, β, Γ, S, s, en, q⟩ => post_here (v := .str _) s rfl q
    · cases h
  | c, .glob x, X, Wx, g, e, h => by
    simp only [ckE] at h
    split at h
    · obtain ⟨h1, h2⟩ := ba h
      have hx := of_decide_eq_true h1
      subst hx
      refine ⟨fun pins s σ H Q I ⟨F, β, Γ, S, si, en, v, hv, q⟩ => ?_⟩
      obtain ⟨u, y, hm, ru, hr⟩ := g.glo _ (lk_mem hv)
      exact ld_glob I (g.gl _ h2) hm ⟨y, H, I, ru, post_here si (hr F β) q⟩ (by have := (ba (ba h2).1).2; simpa using this)
    · cases h
  | c, .tup es, X, Wx, g, e, h => by
    simp only [ckE] at h
    split at h
    · refine (pe_tup (sndL _ es X Wx g _ h)).weak fun σ H Q ⟨F, β, Γ, S, s, en, q⟩ => ?_
      refine runL (call_mono T k) s en q (fun _ _ q => q) fun F1 β1 S1 H1 vs xs e1 s1 r1 ⟨z, q1⟩ => ⟨?_, fun p hp => ?_⟩
      · rw [← r1.len]; exact Nat.le_trans z (by decide)
      · obtain ⟨s2, sb⟩ := s1.lay hp (.tup xs)
        exact q1 _ _ _ _ ⟨e1.sub.trans sb, e1.pre⟩ s2 ⟨p, xs, rfl, SqT.of upd_same, VRs.mono sb (List.prefix_refl _) _ _ r1⟩
    · cases h
  | c, .lst es, X, Wx, g, e, h => by
    simp only [ckE] at h
    split at h
    · refine (pe_lst (sndL _ es X Wx g _ h)).weak fun σ H Q ⟨F, β, Γ, S, s, en, q⟩ => ?_
      refine runL (call_mono T k) s en q (fun _ _ q => q) fun F1 β1 S1 H1 vs xs e1 s1 r1 ⟨z, q1⟩ => ⟨?_, fun p hp => ?_⟩
      · rw [← r1.len]; exact Nat.le_trans z (by decide)
      · have s2 := s1.new hp (o := .lst vs) (u := .lst xs) ⟨xs, upd_same, VRs.mono (Same.refl _) (List.prefix_append _ _) _ _ r1⟩
        refine q1 _ _ _ _ ⟨e1.sub, e1.pre.trans (List.prefix_append _ _)⟩ s2 ⟨p, rfl, ?_⟩
        rw [← s1.len]; simp
    · cases h
  | c, .bin op a b, X, Wx, g, e, h => by
    simp only [ckE] at h
    split at h
    · obtain ⟨h, h3⟩ := ba h
      obtain ⟨h1, h2⟩ := ba h
      obtain ⟨r, ho, hs⟩ := bin_ok (X := X) (cA := cA) h1
      refine (pe_op ho (sndE _ a X Wx g _ h2) (sndE _ b X Wx g _ h3)).weak fun σ H Q ⟨F, β, Γ, S, s, en, q⟩ => ?_
      refine runE (call_mono T k) s en q (fun _ _ q => q) fun F1 β1 S1 H1 v x e1 s1 r1 q1 => ?_
      refine runE (call_mono T k) s1 (en.ext e1) q1 (postX_ext e1) fun F2 β2 S2 H2 u y e2 s2 r2 q2 => ?_
      exact hs F2 β2 S2 H2 v u x y Q s2 (r1.ext e2) r2 (wBin_mono (fun _ _ z => post_ext (e1.trans e2) z) q2)
    · cases h
  | c, .neg a, X, Wx, g, e, h => by
    simp only [ckE] at h
    split at h
    · refine (pe_un un_neg (sndE _ a X Wx g _ h)).weak fun σ H Q ⟨F, β, Γ, S, s, en, q⟩ => ?_
      refine runE (call_mono T k) s en q (fun _ _ q => q) fun F1 β1 S1 H1 v x e1 s1 r1 q1 => ?_
      exact neg_ok s1 r1 (wNeg_mono (fun _ _ z => post_ext e1 z) q1)
    · cases h
  | c, .cmp op a b, X, Wx, g, e, h => by
    simp only [ckE] at h
    split at h
    · obtain ⟨h, h4⟩ := ba h
      obtain ⟨h, h3⟩ := ba h
      obtain ⟨h1, h2⟩ := ba h
      obtain ⟨r, ho, hs⟩ := cmp_ok (X := X) (cA := cA) g.u65 h1
      refine (pe_cmpR ho (sndE _ a X Wx g _ h2) (sndE _ b X Wx g _ h3) (noSet_mark h4 _)).weak fun σ H Q ⟨F, β, Γ, S, s, en, q⟩ => ?_
      refine runE (call_mono T k) s en q (fun _ _ q => q) fun F1 β1 S1 H1 v x e1 s1 r1 q1 => ?_
      refine runE (call_mono T k) s1 (en.ext e1) q1 (postX_ext e1) fun F2 β2 S2 H2 u y e2 s2 r2 q2 => ?_
      exact hs F2 β2 S2 H2 v u x y Q s2 (r1.ext e2) r2 (wCmp_mono (fun _ _ z => post_ext (e1.trans e2) z) q2)
    · cases h
  | c, .isN a, X, Wx, g, e, h => by
    simp only [ckE] at h
    split at h
    · refine (pe_cmp (pc_isN (sndE _ a X Wx g _ h)) rfl).weak fun σ H Q ⟨F, β, Γ, S, s, en, q⟩ => ?_
      refine runE (call_mono T k) s en q (fun _ _ q => q) fun F1 β1 S1 H1 v x e1 s1 r1 q1 => ?_
      rw [isNon_ok r1]
      exact post_here (v := .bl _) s1 rfl (post_ext e1 q1)
    · cases h
  | c, .notN a, X, Wx, g, e, h => by
    simp only [ckE] at h
    split at h
    · refine (pe_cmp (pc_notN (sndE _ a X Wx g _ h)) rfl).weak fun σ H Q ⟨F, β, Γ, S, s, en, q⟩ => ?_
      refine runE (call_mono T k) s en q (fun _ _ q => q) fun F1 β1 S1 H1 v x e1 s1 r1 q1 => ?_
      rw [isNon_ok r1]
      exact post_here (v := .bl _) s1 rfl (post_ext e1 q1)
    · cases h
  | c, .chain op op' a b d, X, Wx, g, e, h => by
    simp only [ckE] at h
    split at h
    · obtain ⟨h, h6⟩ := ba h
      obtain ⟨h, h5⟩ := ba h
      obtain ⟨h, h4⟩ := ba h
      obtain ⟨h, h3⟩ := ba h
      obtain ⟨h1, h2⟩ := ba h
      obtain ⟨r, ho, hs⟩ := cmp_ok (X := X) (cA := cA) g.u65 h1
      obtain ⟨r', ho', hs'⟩ := cmp_ok (X := X) (cA := cA) g.u65 h2
      refine (pe_chain ho ho' (sndE _ a X Wx g _ h3) (sndE _ b X Wx g _ h4) (sndE _ d X Wx g _ h5) (noSet_mark h6 _)).weak fun σ H Q ⟨F, β, Γ, S, s, en, q⟩ => ?_
      refine runE (call_mono T k) s en q (fun _ _ q => q) fun F1 β1 S1 H1 v x e1 s1 r1 q1 => ?_
      refine runE (call_mono T k) s1 (en.ext e1) q1 (postX_ext e1) fun F2 β2 S2 H2 u y e2 s2 r2 q2 => ?_
      refine hs F2 β2 S2 H2 v u x y _ s2 (r1.ext e2) r2 (wCmp_mono (fun z S3 ⟨kk, ez, z3⟩ => ?_) q2)
      subst ez
      intro F3 β3 H3 zz e3 s3 rz
      cases rz
      refine ⟨kk, rfl, ?_⟩
      cases kk with
      | true =>
        refine runE (call_mono T k) s3 (en.ext (e1.trans (e2.trans e3))) z3 (postX_ext (e1.trans (e2.trans e3))) fun F4 β4 S4 H4 w y4 e4 s4 r4 q4 => ?_
        exact hs' F4 β4 S4 H4 u w y y4 Q s4 (r2.ext (e3.trans e4)) r4 (wCmp_mono (fun _ _ z => post_ext (e1.trans (e2.trans (e3.trans e4))) z) q4)
      | false => exact post_here (v := .bl _) s3 rfl (post_ext (e1.trans (e2.trans e3)) z3)
    · cases h
  | c, .tst t, X, Wx, g, e, h => sndB _ t X Wx g e (by simpa only [ckE] using h)
  | c, .ite t a b, X, Wx, g, e, h => by
    simp only [ckE] at h
    split at h
    · obtain ⟨h, h3⟩ := ba h
      obtain ⟨h1, h2⟩ := ba h
      refine (pe_ifExp (sndT _ t X Wx g _ h1) (sndE _ a X Wx g _ h2) (sndE _ b X Wx g _ h3)).weak fun σ H Q ⟨F, β, Γ, S, s, en, q⟩ => ?_
      refine runT (call_mono T k) s en q (fun _ _ q => q) fun F1 β1 S1 H1 v e1 s1 q1 => ?_
      cases v with
      | true => exact runE (call_mono T k) s1 (en.ext e1) q1 (postX_ext e1) fun F2 β2 S2 H2 u y e2 s2 r2 q2 => post_here s2 r2 (post_ext (e1.trans e2) q2)
      | false => exact runE (call_mono T k) s1 (en.ext e1) q1 (postX_ext e1) fun F2 β2 S2 H2 u y e2 s2 r2 q2 => post_here s2 r2 (post_ext (e1.trans e2) q2)
    · cases h
  | c, .call f es, X, Wx, g, e, h => by
    simp only [ckE] at h
    split at h
    · rename_i x p e1 es' pos
      obtain ⟨h, h4⟩ := ba h
      obtain ⟨h, h3⟩ := ba h
      obtain ⟨h1, h2⟩ := ba h
      have hx := of_decide_eq_true h1
      subst hx
      have hst : noStar e1 = true ∧ (backTo pos (starEach es' X.env)).any (·.1) = false := by
        cases es with
        | nil => simp only [ckL] at h3; cases h3
        | cons m ms =>
          simp only [ckL] at h3
          obtain ⟨h3, h5⟩ := ba h3
          exact ⟨(ba h3).2, any_star ms _ _ _ h5⟩
      obtain ⟨d, a, fd, hd, hm, hk, hb, hF⟩ := g.fn x (by simpa using h4)
      refine (pe_callS (E := WE Wx) hF (g.room.mono (by omega)) (g.gl _ h2) hm hk hb (fun σ => passAt g.tk σ) (sndL _ es X Wx g _ h3) (by have := (ba (ba h2).1).2; simpa using this) (star_cons hst.1 _ _) hst.2).weak fun σ H Q ⟨F, β, Γ, S, s, en, q⟩ => ?_
      refine runL (call_mono T k) s en q (fun _ _ q => q) fun F1 β1 S1 H1 vs xs e1 s1 r1 q1 => ?_
      exact ⟨F1, β1, S1, vs, s1, r1, call_mono T k _ _ _ _ _ _ _ (fun _ _ z => post_ext e1 z) (fun c' S' z => postX_ext e1 c' S' z) q1⟩
    · rename_i x p pos
      obtain ⟨h, h4⟩ := ba h
      obtain ⟨h, h3⟩ := ba h
      obtain ⟨h1, h2⟩ := ba h
      have hx := of_decide_eq_true h1
      subst hx
      cases es with
      | cons m ms => cases h3
      | nil =>
        obtain ⟨d, a, fd, hd, hm, hk, hb, hF⟩ := g.fn x (by simpa using h4)
        refine (pe_callZ (E := WE Wx) hF (g.room.mono (by omega)) (g.gl _ h2) hm hk hb (fun σ => passAt g.tk σ) (by have := (ba (ba h2).1).2; simpa using this)).weak fun σ H Q ⟨F, β, Γ, S, s, en, q⟩ => ?_
        exact ⟨F, β, S, [], s, rfl, q⟩
    · cases h
  | c, .len a, X, Wx, g, e, h => by
    simp only [ckE] at h
    split at h
    · obtain ⟨h, h4⟩ := ba h
      obtain ⟨h, h3⟩ := ba h
      obtain ⟨h1, h2⟩ := ba h
      have hx := of_decide_eq_true h1
      subst hx
      refine (pe_callB call_lenD (g.gl _ h2) (g.blt _ (by decide)) boot_len (pa_cons (sndE _ a X Wx g _ h3) pa_nil (star_cons h4 _ _)) (he := star_cons h4 _ _)).weak fun σ H Q ⟨F, β, Γ, S, s, en, q⟩ => ?_
      refine runE (call_mono T k) s en q (fun _ _ q => q) fun F1 β1 S1 H1 v x e1 s1 r1 q1 => ?_
      obtain ⟨n, l, q2⟩ := len_ok s1 r1 (wLen_mono (fun _ _ z => post_ext e1 z) q1)
      exact ⟨x, n, rfl, l, q2⟩
    · cases h
  | c, .abs a, X, Wx, g, e, h => by
    simp only [ckE] at h
    split at h
    · obtain ⟨h, h4⟩ := ba h
      obtain ⟨h, h3⟩ := ba h
      obtain ⟨h1, h2⟩ := ba h
      have hx := of_decide_eq_true h1
      subst hx
      refine (pe_callB call_abs (g.gl _ h2) (g.blt _ (by decide)) (by decide +kernel) (pa_cons (sndE _ a X Wx g _ h3) pa_nil (star_cons h4 _ _)) (he := star_cons h4 _ _)).weak fun σ H Q ⟨F, β, Γ, S, s, en, q⟩ => ?_
      refine runE (call_mono T k) s en q (fun _ _ q => q) fun F1 β1 S1 H1 v x e1 s1 r1 q1 => ?_
      obtain ⟨i, rfl, q2⟩ := abs_ok s1 r1 (wAbs_mono (fun _ _ z => post_ext e1 z) q1)
      exact ⟨i, rfl, q2⟩
    · cases h
  | c, .lrev a, X, Wx, g, e, h => by
    simp only [ckE] at h
    split at h
    · rename_i x p y p2 a' pos2 pos
      obtain ⟨h, h6⟩ := ba h
      obtain ⟨h, h5⟩ := ba h
      obtain ⟨h, h4⟩ := ba h
      obtain ⟨h, h3⟩ := ba h
      obtain ⟨h1, h2⟩ := ba h
      have hx := of_decide_eq_true h1
      have hy := of_decide_eq_true h3
      subst hx hy
      refine (pe_listRev g.calm (g.gl _ h2) (g.blt _ (by decide)) (g.gl _ h4) (g.blt _ (by decide)) (sndE _ a X Wx g _ h5) (star_cons h6 _ _)).weak fun σ H Q ⟨F, β, Γ, S, s, en, q⟩ => ?_
      refine runE (call_mono T k) s en q (fun _ _ q => q) fun F1 β1 S1 H1 v x e1 s1 r1 ⟨xs, h1, q1⟩ => ?_
      obtain ⟨b, ys, rfl, e2, qq⟩ := h1.ok s1 r1
      exact ⟨b, ys, rfl, SqL.of e2, post_new s1 qq.reverse (post_ext e1 q1)⟩
    · cases h
  | c, .isi a t, X, Wx, g, e, h => by
    simp only [ckE] at h
    split at h
    · obtain ⟨h, h6⟩ := ba h
      obtain ⟨h, h5⟩ := ba h
      obtain ⟨h, h4⟩ := ba h
      obtain ⟨h, h3⟩ := ba h
      obtain ⟨h1, h2⟩ := ba h
      have hx := of_decide_eq_true h1
      have hy := of_decide_eq_true h3
      subst hx hy
      have hty : ∀ p, PE X (.Name (tyN t) p) (tC (.ty (tyS t))) := fun p => pe_bltn (v := .ty (tyS t)) (u := .type (tyS t)) (g.gl _ h4) (g.blt _ (by cases t <;> decide)) (by cases t <;> decide +kernel) rfl (by cases t <;> decide) (by cases t <;> decide)
      refine (pe_callB call_isi (g.gl _ h2) (g.blt _ (by decide)) (by decide +kernel) (pa_cons (sndE _ a X Wx g _ h5) (pa_cons (hty _) pa_nil rfl) (star_cons h6 _ _)) (he := star_cons h6 _ _)).weak fun σ H Q ⟨F, β, Γ, S, s, en, q⟩ => ?_
      refine runE (call_mono T k) s en q (fun _ _ q => q) fun F1 β1 S1 H1 v x e1 s1 r1 ⟨b, q1, q2⟩ => ?_
      obtain ⟨tv, t1, t2⟩ := ty_ok s1 r1 q1
      exact ⟨x, _, tv, _, b, rfl, .ty _, t1, t2, post_here (v := .bl _) s1 rfl (post_ext e1 q2)⟩
    · cases h
  | c, .isc a z, X, Wx, g, e, h => by
    simp only [ckE] at h
    split at h
    · obtain ⟨h, h6⟩ := ba h
      obtain ⟨h, h5⟩ := ba h
      obtain ⟨h, h4⟩ := ba h
      obtain ⟨h, h3⟩ := ba h
      obtain ⟨h1, h2⟩ := ba h
      have hx := of_decide_eq_true h1
      have hy := (of_decide_eq_true h3).symm
      subst hx hy
      have hcl : ∀ p, PE X (.Name z p) (fun σ H Q => ∃ C, X.mg z = some (.ref C) ∧ Q (.ref C) H) := fun p => ⟨fun pins s σ H Q I ⟨C, hm, q⟩ => ld_glob I (g.gl _ h4) hm ⟨.ref C, H, I, rfl, q⟩ (by have := (ba (ba h4).1).2; simpa using this)⟩
      refine (pe_callB call_isi (g.gl _ h2) (g.blt _ (by decide)) (by decide +kernel) (pa_cons (sndE _ a X Wx g _ h5) (pa_cons (hcl _) pa_nil rfl) (star_cons h6 _ _)) (he := star_cons h6 _ _)).weak fun σ H Q ⟨F, β, Γ, S, s, en, q⟩ => ?_
      refine runE (call_mono T k) s en q (fun _ _ q => q) fun F1 β1 S1 H1 v x e1 s1 r1 ⟨j, hv, ob, ho, b, hc, q2⟩ => ?_
      subst hv
      obtain ⟨cn, fs, rfl, hl⟩ := clsIs_ok hc
      obtain ⟨m1, ⟨i1, i2, i3, i4, i5⟩, m3⟩ := g.isa _ (isa_mem hl)
      obtain ⟨ad, rfl, ha⟩ := r1
      obtain ⟨b2, hb2, _, dx, ys, e2, _⟩ := s1.at ho
      rw [ha] at hb2
      cases hb2
      exact ⟨_, m1, _, _, _, _, b, rfl, .own _, .base (.ins e2 i1 i2 i3 i4 i5), m3, post_here (v := .bl _) s1 rfl (post_ext e1 q2)⟩
    · cases h
  | c, .sub a i, X, Wx, g, e, h => by
    simp only [ckE] at h
    split at h
    · obtain ⟨h, h3⟩ := ba h
      obtain ⟨h1, h2⟩ := ba h
      refine (pe_ix (((ix_list.or ix_tup).or ix_str).or (ix_dict (by have := g.u65; omega))) (sndE _ a X Wx g _ h1) (sndE _ i X Wx g _ h2) (noSlice_ix h3)).weak fun σ H Q ⟨F, β, Γ, S, s, en, q⟩ => ?_
      refine runE (call_mono T k) s en q (fun _ _ q => q) fun F1 β1 S1 H1 v x e1 s1 r1 q1 => ?_
      refine runE (call_mono T k) s1 (en.ext e1) q1 (postX_ext e1) fun F2 β2 S2 H2 u y e2 s2 r2 q2 => ?_
      exact sub_ok F2 β2 S2 H2 v u x y Q s2 (r1.ext e2) r2 (wSub_mono (fun _ _ z => post_ext (e1.trans e2) z) q2)
    · cases h
  | c, .slice a lo hi, X, Wx, g, e, h => by
    simp only [ckE] at h
    split at h
    · obtain ⟨h, h3⟩ := ba h
      obtain ⟨h1, h2⟩ := ba h
      refine (pe_slice ((sl_list.or sl_tup).or sl_str) (sndE _ a X Wx g _ h1) (sndOe _ lo X Wx g _ h2) (sndOe _ hi X Wx g _ h3)).weak fun σ H Q ⟨F, β, Γ, S, s, en, q⟩ => ?_
      refine runE (call_mono T k) s en q (fun _ _ q => q) fun F1 β1 S1 H1 v x e1 s1 r1 q1 => ?_
      refine runO (call_mono T k) s1 (en.ext e1) q1 (postX_ext e1) fun F2 β2 S2 H2 l e2 s2 q2 => ?_
      refine runO (call_mono T k) s2 (en.ext (e1.trans e2)) q2 (postX_ext (e1.trans e2)) fun F3 β3 S3 H3 u e3 s3 q3 => ?_
      exact slice_ok s3 (r1.ext (e2.trans e3)) (wSlice_mono (fun _ _ z => post_ext (e1.trans (e2.trans e3)) z) q3)
    · cases h
  | c, .blt f es, X, Wx, g, e, h => by
    simp only [ckE] at h
    split at h
    · rename_i x p e1 es' pos
      obtain ⟨h, h4⟩ := ba h
      obtain ⟨h, h3⟩ := ba h
      obtain ⟨h1, h2⟩ := ba h
      have hx := of_decide_eq_true h1
      subst hx
      have hst := ckL_first es e1 es' pos X.env h3
      obtain ⟨r, hr, hs⟩ := blt_ok (X := X) (cA := cA) g.calm f
      refine (blt_call hr (g.gl _ h2) (g.blt _ (by cases f <;> decide)) (sndL _ es X Wx g _ h3) hst.1 hst.2).weak fun σ H Q ⟨F, β, Γ, S, s, en, q⟩ => ?_
      refine runL (call_mono T k) s en q (fun _ _ q => q) fun F1 β1 S1 H1 vs xs e1 s1 r1 q1 => ?_
      exact hs F1 β1 S1 H1 vs xs Q s1 r1 (wBlt_mono (fun _ _ z => post_ext e1 z) q1)
    · cases h
  | c, .mth m o es, X, Wx, g, e, h => by
    simp only [ckE] at h
    split at h
    · rename_i o' nm apos es' pos
      obtain ⟨h, h6⟩ := ba h
      obtain ⟨h, h5⟩ := ba h
      obtain ⟨h, h4⟩ := ba h
      obtain ⟨h, h3⟩ := ba h
      obtain ⟨h1, h2⟩ := ba h
      have hx := of_decide_eq_true h1
      subst hx
      obtain ⟨r, hr, hs⟩ := mth_ok (X := X) (cA := cA) g.u65 m
      cases es' with
      | nil =>
        refine (mth_call0 hr (sndE _ o X Wx g _ h2) h5 h4 (of_decide_eq_true h6).symm).weak fun σ H Q ⟨F, β, Γ, S, s, en, q⟩ => ?_
        refine runE (call_mono T k) s en q (fun _ _ q => q) fun F1 β1 S1 H1 v x e1 s1 r1 ⟨z, q1⟩ => ?_
        cases es with
        | nil => exact ⟨mOk_ty s1 r1 z, hs F1 β1 S1 H1 v x [] [] Q s1 r1 rfl (wMth_mono (fun _ _ z => post_ext e1 z) q1)⟩
        | cons _ _ => simp only [ckL] at h3; cases h3
      | cons e0 es' =>
        have hst := ckL_first es e0 es' pos X.env h3
        refine (mth_call hr (sndE _ o X Wx g _ h2) (sndL _ es X Wx g _ h3) h5 h4 (of_decide_eq_true h6) (any_star es _ _ _ h3) hst.1 hst.2).weak fun σ H Q ⟨F, β, Γ, S, s, en, q⟩ => ?_
        refine runE (call_mono T k) s en q (fun _ _ q => q) fun F1 β1 S1 H1 v x e1 s1 r1 ⟨z, q1⟩ => ?_
        refine ⟨mOk_ty s1 r1 z, ?_⟩
        refine runL (call_mono T k) s1 (en.ext e1) q1 (postX_ext e1) fun F2 β2 S2 H2 vs xs e2 s2 r2 q2 => ?_
        exact hs F2 β2 S2 H2 v x vs xs Q s2 (r1.ext e2) r2 (wMth_mono (fun _ _ z => post_ext (e1.trans e2) z) q2)
    · cases h
  | c, .comp own elt tg it cond, X, Wx, g, e, h => by
    simp only [ckE] at h
    split at h
    · rename_i elt' tg' it' ifs scope pos
      obtain ⟨h, h6⟩ := ba h
      obtain ⟨h, h5⟩ := ba h
      obtain ⟨h, h4⟩ := ba h
      obtain ⟨h, h3⟩ := ba h
      obtain ⟨h1, h2⟩ := ba h
      have hblk : BlkOk X.N X.env.scope scope (ownA c.N own) := by
        rw [g.hN, g.sc]; exact blkOk_by h1
      refine (pe_lc (g := liftG X.K cA (tgS tg) fun S v Γ => bindT S tg v Γ) (tt := liftT X.K cA (fun _ _ _ _ => False) (fun Γ S P _ => WT0 (orc T k) cond Γ S P)) (te := liftE X.K cA (fun _ _ _ _ => False) (W (orc T k) elt)) g.calm g.nd (sndI _ it X Wx g _ _ h2) hblk (fun s H C cl fp => sndG tg _ (g.inn hblk.kind s H C cl fp).hN g.nd (g.inn hblk.kind s H C cl fp).loc g.calm _ h3)
        (fun s H C cl fp => sndT0 _ cond _ _ (g.inn hblk.kind s H C cl fp) _ h5) (fun s H C cl fp => sndE _ elt _ _ (g.inn hblk.kind s H C cl fp) _ h6) (ckI_fold h2 X.env)).weak fun σ H Q ⟨F, β, Γ, S, s, en, q⟩ => ?_
      refine runI (call_mono T k) s en q (fun _ _ q => q) fun F1 β1 S1 H1 J xs G e1 s1 i1 q1 => ?_
      rw [ownA_ix]
      exact comp_ok (call_mono T k) e1 s1 (en.ext e1) i1 q1 (fun i hi => by have := List.all_eq_true.mp h4 i hi; simpa using this)
    · cases h
  | c, .fld o f, X, Wx, g, e, h => by
    simp only [ckE] at h
    split at h
    · obtain ⟨h, h3⟩ := ba h
      obtain ⟨h1, h2⟩ := ba h
      have hx := of_decide_eq_true h1
      subst hx
      refine (pe_fld (sndE _ o X Wx g _ h2) (plainB_ok h3 _ _ _)).weak fun σ H Q ⟨F, β, Γ, S, s, en, q⟩ => ?_
      refine runE (call_mono T k) s en q (fun _ _ q => q) fun F1 β1 S1 H1 v x e1 s1 r1 ⟨n, ev, ob, h0, u, hu, q1⟩ => ?_
      subst ev
      obtain ⟨c', fs, rfl, hn, hl⟩ := fldO_ok hu
      obtain ⟨hc, hn⟩ := g.noat _ (noat_mem hn)
      obtain ⟨a, dx, ys, rfl, _, _, e2, qq⟩ := ins_ok s1 h0 r1
      obtain ⟨y, hy, ry⟩ := qq.get.1 u hl
      exact ⟨a, _, dx, ys, y, rfl, e2, hc, hn, hy, post_here s1 ry (post_ext e1 q1)⟩
    · cases h
  | c, .mcall o m es, X, Wx, g, e, h => by
    simp only [ckE] at h
    split at h
    · rename_i o' nm ap es' pos
      obtain ⟨h, h6⟩ := ba h
      obtain ⟨h, h5⟩ := ba h
      obtain ⟨h, h4⟩ := ba h
      obtain ⟨h, h3⟩ := ba h
      obtain ⟨h1, h2⟩ := ba h
      have hx := of_decide_eq_true h1
      subst hx
      have key : ∀ (t : TA), (∀ {σ : St} {F : Hp} {β : List Addr} {Γ : Env} {S : Sto} {H : Hp} {R : PL} {E0 : PX} {Q1 : List V → Hp → Prop}, Sim X.K cA F β S H → EnvR X.K F β Γ σ → WL (orc T k) es Γ S R E0 → (∀ c S, E0 c S → postX X.K cA F β Wx σ c S) →
          (∀ F' β' S1 H1 v x, Ext F β F' β' → Sim X.K cA F' β' S1 H1 → VRs X.K F' β' v x → R v S1 → Q1 x H1) → t σ H Q1) → ∀ σ H Q, liftE X.K cA Wx (W (orc T k) (.mcall o nm es)) σ H Q →
          tMethD X (L2.CX X.prog X.w) (2 * k) (WE Wx) nm (liftE X.K cA Wx (W (orc T k) o)) t σ H Q := by
        rintro t ht σ H Q ⟨F, β, Γ, S, s, en, q⟩
        refine runE (call_mono T k) s en q (fun _ _ q => q) fun F1 β1 S1 H1 v x e1 s1 r1 ⟨n, ev, ob, h0, ky, hk, q1⟩ => ?_
        subst ev
        obtain ⟨c', fs, rfl, hn, hl⟩ := mkey_ok hk
        obtain ⟨hc, d, fa, fd, hd, hM, hB, hF⟩ := g.meth _ (meth_mem hl)
        obtain ⟨a, dx, ys, rfl, tt, _, e2, qq⟩ := ins_ok s1 h0 r1
        refine ⟨a, _, dx, ys, fa, fd, d.ps, _, rfl, e2, qq.get.2 hn, hc, hM, hB, hF, ?_⟩
        refine ht s1 (en.ext e1) q1 (postX_ext e1) fun F2 β2 S2 H2 vs xs e2 s2 r2 q2 => ?_
        exact ⟨F2, β2, S2, .loc n :: vs, s2, VRs.mk (v := .loc n) ⟨a, rfl, pre_get e2.pre tt⟩ r2, call_mono T k _ _ _ _ _ _ _ (fun _ _ z => post_ext (e1.trans e2) z) (fun c' S' z => postX_ext (e1.trans e2) c' S' z) q2⟩
      cases es' with
      | nil =>
        refine (pe_mcall0 (E := WE Wx) (g.room.mono (by omega)) (fun σ => passAt g.tk σ) h4 h5 (sndE _ o X Wx g _ h2)).weak (key _ ?_)
        intro σ F β Γ S H R E0 Q1 s en w hE hh
        cases es with
        | nil => exact hh F β S H [] [] (Ext.refl _ _) s rfl w
        | cons _ _ => simp only [ckL] at h3; cases h3
      | cons e0 es' =>
        have hst := ckL_first es e0 es' pos X.env h3
        exact (pe_mcall (E := WE Wx) (g.room.mono (by omega)) (fun σ => passAt g.tk σ) h4 h5 (of_decide_eq_true h6) (any_star es _ _ _ h3) (sndE _ o X Wx g _ h2) (sndL _ es X Wx g _ h3) hst.1 hst.2).weak (key _ fun s en w hE hh => runL (call_mono T k) s en w hE hh)
    · cases h
  | c, .make x es, X, Wx, g, e, h => by
    simp only [ckE] at h
    split at h
    · rename_i y p es' pos
      obtain ⟨h, h3⟩ := ba h
      obtain ⟨h1, h2⟩ := ba h
      have hx := of_decide_eq_true h1
      subst hx
      have hdb : (y == ("__debug__" : Str)) = false := by have := (ba (ba h2).1).2; simpa using this
      cases hi : T.init y with
      | none =>
        refine ⟨fun pins s σ H Q I ⟨F, β, Γ, S, si, en, ky, e1, q⟩ => ?_⟩
        rw [show (orc T k).init y = T.init y from rfl, hi] at e1
        cases e1
      | some oo =>
        obtain ⟨hm, kp, hh⟩ := g.init _ (lk_mem hi)
        cases oo with
        | none =>
          refine ⟨fun pins s σ H Q I ⟨F, β, Γ, S, si, en, ky, e1, q⟩ => ?_⟩
          rw [show (orc T k).init y = T.init y from rfl, hi] at e1
          cases e1
        | some ky =>
          obtain ⟨d, fa, fd, hd, M, hB, hF⟩ := hh
          have fin : ∀ (σ : St) (Q : VK) {F : Hp} {β : List Addr} {S : Sto} {H : Hp} {vs : List Va} {xs : List V}, Sim X.K cA F β S H → VRs X.K F β vs xs →
              call T k ky (.loc S.length :: vs) (S ++ [.ins y []]) (fun v S2 => v = .non ∧ post X.K cA F β Q (.loc S.length) S2) (postX X.K cA F β Wx σ) → spMk (cA y) (spI X.K cA (orc T k) ky) xs H Q (WE Wx σ) := by
            intro σ Q F β S H vs xs s r w a dx ha hdx ne
            obtain ⟨F2, e2, s2⟩ := new_ins s y ha hdx ne
            have hat : (β ++ [a])[S.length]? = some a := by rw [← s.len]; simp
            refine ⟨F2, β ++ [a], _, .loc S.length :: vs, s2, VRs.mk (v := .loc S.length) ⟨a, rfl, hat⟩ (r.ext e2), call_mono T k _ _ _ _ _ _ _ (fun v S2 z => ?_) (fun c' S' z => postX_ext e2 c' S' z) w⟩
            intro F3 β3 H3 u e3 s3 r3
            obtain ⟨z1, z2⟩ := z
            subst z1
            exact ⟨r3, z2 F3 β3 H3 _ (e2.trans e3) s3 ⟨a, rfl, pre_get e3.pre hat⟩⟩
          cases es' with
          | nil =>
            refine (pe_makeS0 (E := WE Wx) M hF g.room (g.gl _ h2) hm hB (fun σ => passAt g.tk σ) hdb).weak fun σ H Q ⟨F, β, Γ, S, s, en, ky', e1, q⟩ => ?_
            rw [show (orc T k).init y = T.init y from rfl, hi] at e1
            cases e1
            cases es with
            | nil => exact fin σ Q s (show VRs X.K F β [] [] from rfl) q
            | cons _ _ => simp only [ckL] at h3; cases h3
          | cons e0 es' =>
            have hst := ckL_first es e0 es' pos X.env h3
            refine (pe_makeS (E := WE Wx) M hF g.room (g.gl _ h2) hm hB (fun σ => passAt g.tk σ) (sndL _ es X Wx g _ h3) hdb hst.1 hst.2).weak fun σ H Q ⟨F, β, Γ, S, s, en, ky', e1, q⟩ => ?_
            rw [show (orc T k).init y = T.init y from rfl, hi] at e1
            cases e1
            refine runL (call_mono T k) s en q (fun _ _ q => q) fun F1 β1 S1 H1 vs xs e1 s1 r1 q1 => ?_
            exact fin σ Q s1 r1 (call_mono T k _ _ _ _ _ _ _ (fun v S2 z => ⟨z.1, post_ext e1 z.2⟩) (fun c' S' z => postX_ext e1 c' S' z) q1)
    · cases h
  | c, .make0 x, X, Wx, g, e, h => by
    simp only [ckE] at h
    split at h
    · rename_i y p pos
      obtain ⟨h1, h2⟩ := ba h
      have hx := of_decide_eq_true h1
      subst hx
      have hdb : (y == ("__debug__" : Str)) = false := by have := (ba (ba h2).1).2; simpa using this
      cases hi : T.init y with
      | none =>
        refine ⟨fun pins s σ H Q I ⟨F, β, Γ, S, si, en, e1, q⟩ => ?_⟩
        rw [show (orc T k).init y = T.init y from rfl, hi] at e1
        cases e1
      | some oo =>
        obtain ⟨hm, kp, hh⟩ := g.init _ (lk_mem hi)
        cases oo with
        | some ky =>
          refine ⟨fun pins s σ H Q I ⟨F, β, Γ, S, si, en, e1, q⟩ => ?_⟩
          rw [show (orc T k).init y = T.init y from rfl, hi] at e1
          cases e1
        | none =>
          obtain ⟨h5, h6, h7⟩ := hh
          refine (pe_makeO kp h5 h6 h7 (g.gl _ h2) hm hdb).weak fun σ H Q ⟨F, β, Γ, S, s, en, e1, q⟩ a dx ha hdx ne => ?_
          obtain ⟨F2, e2, s2⟩ := new_ins s y ha hdx ne
          exact q F2 _ _ _ e2 s2 ⟨a, rfl, by rw [← s.len]; simp⟩
    · cases h
  | c, .dsp es, X, Wx, g, e, h => by
    simp only [ckE] at h
    split at h
    · rename_i ks vs pos
      obtain ⟨h1, h2⟩ := ba h
      have h15 := of_decide_eq_true h2
      match es, ks, vs, h1 with
      | .nil, [], [], _ =>
        exact pe_dnewK.weak fun σ H Q ⟨F, β, Γ, S, s, en, kvs, e1, e2, e3, q⟩ => by
          cases e1
          have e4 : (S ++ [Ob.dct []]).set S.length (.dct (mergeA [] [])) = S ++ [.dct []] := by
            rw [List.set_append_right _ _ (Nat.le_refl _), Nat.sub_self]; rfl
          rw [e4] at q
          exact post_dct s (show VRk X.K F β [] [] from rfl) q
      | .nil, [], _ :: _, h1 => simp [ckP] at h1
      | .nil, _ :: _, _, h1 => simp [ckP] at h1
      | .cons m1 r1, ks, vs, h1 =>
        obtain ⟨trs, hp, hsnd⟩ := sndP _ (.cons m1 r1) X Wx g ks vs pos h1
        obtain ⟨z1, z2⟩ := ckP_len (.cons m1 r1) ks vs h1
        have z3 : ks ≠ [] := by
          rintro rfl
          cases r1 <;> simp [ckP] at h1
        refine (pe_disp hp z1 z2 z3 h15).weak fun σ H Q ⟨F, β, Γ, S, s, en, q⟩ a ha => ?_
        have s2 := s.new ha (o := .dct []) (u := .dK []) ⟨[], upd_same, rfl⟩
        have e2 : Ext F β F (β ++ [a]) := ⟨Same.refl _, List.prefix_append _ _⟩
        have hat : (β ++ [a])[S.length]? = some a := by rw [← s.len]; simp
        refine hsnd s2 (en.ext e2) q (fun c' S' z => postX_ext e2 c' S' z) fun F3 β3 S3 H3 ws ps e3 s3 rp ⟨kvs, hk, hl, hd, q3⟩ => ?_
        obtain ⟨kys, k1, k2⟩ := rp kvs hk
        have k3 := k2.len
        obtain ⟨a2, ys2, ea2, ta2, _, ed2, q5⟩ := dct_ok s3 hd (x := .ref a) ⟨a, rfl, pre_get e3.pre hat⟩
        cases ea2
        have e5 : ys2 = [] := q5
        subst e5
        refine ⟨ed2, kys, k1, by omega, ?_⟩
        exact q3 F3 β3 _ _ (e2.trans e3) (put_dct s3 hd ta2 (k2.merge (show VRk X.K F3 β3 [] [] from rfl))) ⟨a, rfl, pre_get e3.pre hat⟩
    · cases h
  | c, .get1 o m, X, Wx, g, e, h => by
    simp only [ckE] at h
    split at h
    · obtain ⟨h, h6⟩ := ba h
      obtain ⟨h, h5⟩ := ba h
      obtain ⟨h, h4⟩ := ba h
      obtain ⟨h, h3⟩ := ba h
      obtain ⟨h1, h2⟩ := ba h
      have hx := of_decide_eq_true h1
      subst hx
      refine (pe_dget1 (by have := g.u65; omega) (sndE _ o X Wx g _ h2) (sndE _ m X Wx g _ h3) (m1_ok h5 h6 h4)).weak fun σ H Q ⟨F, β, Γ, S, s, en, q⟩ => ?_
      refine runE (call_mono T k) s en q (fun _ _ q => q) fun F1 β1 S1 H1 v x e1 s1 r1 ⟨⟨kvs0, hd0⟩, q1⟩ => ?_
      obtain ⟨a, ys, rfl, ed, _⟩ := hd0.ok s1 r1
      refine ⟨a, rfl, .inl ⟨ys, Rd.of ed⟩, ?_⟩
      refine runE (call_mono T k) s1 (en.ext e1) q1 (postX_ext e1) fun F2 β2 S2 H2 u y e2 s2 r2 ⟨kvs, hd, kk, hk, q2⟩ => ?_
      obtain ⟨a', ys', ea, ed', qq⟩ := hd.ok s2 (r1.ext e2)
      cases ea
      obtain ⟨v1, v2⟩ := qq.val kk
      refine ⟨valV ys' kk, by rw [kV_keyV hk r2]; exact .k ed', ?_⟩
      cases hg : dget kvs kk with
      | none => rw [v2 hg]; rw [hg] at q2; exact post_here (v := .non) s2 rfl (post_ext (e1.trans e2) q2)
      | some z => obtain ⟨w, e5, rw'⟩ := v1 z hg; rw [e5]; rw [hg] at q2; exact post_here s2 rw' (post_ext (e1.trans e2) q2)
    · cases h
  | c, .get2 o m d, X, Wx, g, e, h => by
    simp only [ckE] at h
    split at h
    · obtain ⟨h, h8⟩ := ba h
      obtain ⟨h, h7⟩ := ba h
      obtain ⟨h, h6⟩ := ba h
      obtain ⟨h, h5⟩ := ba h
      obtain ⟨h, h4⟩ := ba h
      obtain ⟨h, h3⟩ := ba h
      obtain ⟨h1, h2⟩ := ba h
      have hx := of_decide_eq_true h1
      subst hx
      refine (pe_dget2 (by have := g.u65; omega) (sndE _ o X Wx g _ h2) (sndE _ m X Wx g _ h3) (sndE _ d X Wx g _ h7) (m2_ok h5 h6 h8 h4)).weak fun σ H Q ⟨F, β, Γ, S, s, en, q⟩ => ?_
      refine runE (call_mono T k) s en q (fun _ _ q => q) fun F1 β1 S1 H1 v x e1 s1 r1 ⟨⟨kvs0, hd0⟩, q1⟩ => ?_
      obtain ⟨a, ys, rfl, ed, _⟩ := hd0.ok s1 r1
      refine ⟨a, rfl, .inl ⟨ys, Rd.of ed⟩, ?_⟩
      refine runE (call_mono T k) s1 (en.ext e1) q1 (postX_ext e1) fun F2 β2 S2 H2 u y e2 s2 r2 q2 => ?_
      refine runE (call_mono T k) s2 (en.ext (e1.trans e2)) q2 (postX_ext (e1.trans e2)) fun F3 β3 S3 H3 w z e3 s3 r3 ⟨kvs, hd, kk, hk, q3⟩ => ?_
      obtain ⟨a', ys', ea, ed', qq⟩ := hd.ok s3 (r1.ext (e2.trans e3))
      cases ea
      obtain ⟨v1, v2⟩ := qq.val kk
      refine ⟨valV ys' kk, by rw [kV_keyV hk (r2.ext e3)]; exact .k ed', ?_⟩
      cases hg : dget kvs kk with
      | none => rw [v2 hg]; rw [hg] at q3; exact post_here s3 r3 (post_ext (e1.trans (e2.trans e3)) q3)
      | some z => obtain ⟨w, e5, rw'⟩ := v1 z hg; rw [e5]; rw [hg] at q3; exact post_here s3 rw' (post_ext (e1.trans (e2.trans e3)) q3)
    · cases h
  | c, .gget x m d, X, Wx, g, e, h => by
    simp only [ckE] at h
    split at h
    · obtain ⟨h, h9⟩ := ba h
      obtain ⟨h, h8⟩ := ba h
      obtain ⟨h, h7⟩ := ba h
      obtain ⟨h, h6⟩ := ba h
      obtain ⟨h, h5⟩ := ba h
      obtain ⟨h, h4⟩ := ba h
      obtain ⟨h, h3⟩ := ba h
      obtain ⟨h1, h2⟩ := ba h
      have hx := of_decide_eq_true h1
      subst hx
      have hy := of_decide_eq_true h2
      subst hy
      refine (pe_kget2 (g.gl _ h3) (by have := (ba (ba h3).1).2; simpa using this) (sndE _ m X Wx g _ h4) (sndE _ d X Wx g _ h8) (m2_ok h6 h7 h9 h5)).weak fun σ H Q ⟨F, β, Γ, S, s, en, l, hl, q⟩ => ?_
      obtain ⟨A, es, n, e1, D, hq⟩ := g.gdc _ (lk_mem hl)
      refine ⟨A, es, n, e1, D, ?_⟩
      refine runE (call_mono T k) s en q (fun _ _ q => q) fun F1 β1 S1 H1 v x e1 s1 r1 q1 => ?_
      refine runE (call_mono T k) s1 (en.ext e1) q1 (postX_ext e1) fun F2 β2 S2 H2 u y e2 s2 r2 ⟨w, ew, o, ho, q2⟩ => ?_
      subst ew
      obtain ⟨r, hr1, hr2⟩ := hq _ (lk_mem ho)
      refine ⟨w, r, r1, hr1, ?_⟩
      cases o with
      | none => exact .inl ⟨hr2, post_here s2 r2 (post_ext (e1.trans e2) q2)⟩
      | some z =>
        obtain ⟨u', y', e5, rv, hvr⟩ := hr2
        exact .inr ⟨u', y', e5, rv, post_here s2 (hvr _ _) (post_ext (e1.trans e2) q2)⟩
    · cases h
  | c, .dpop1 o m, X, Wx, g, e, h => by
    simp only [ckE] at h
    split at h
    · obtain ⟨h, h6⟩ := ba h
      obtain ⟨h, h5⟩ := ba h
      obtain ⟨h, h4⟩ := ba h
      obtain ⟨h, h3⟩ := ba h
      obtain ⟨h1, h2⟩ := ba h
      have hx := of_decide_eq_true h1
      subst hx
      refine (pe_dpop1 (sndE _ o X Wx g _ h2) (sndE _ m X Wx g _ h3) (m1_ok h5 h6 h4)).weak fun σ H Q ⟨F, β, Γ, S, s, en, q⟩ => ?_
      refine runE (call_mono T k) s en q (fun _ _ q => q) fun F1 β1 S1 H1 v x e1 s1 r1 ⟨⟨kvs0, hd0⟩, q1⟩ => ?_
      obtain ⟨a, ys, rfl, ed, _⟩ := hd0.ok s1 r1
      refine ⟨a, rfl, .inl ⟨ys, Rd.of ed⟩, ?_⟩
      refine runE (call_mono T k) s1 (en.ext e1) q1 (postX_ext e1) fun F2 β2 S2 H2 u y e2 s2 r2 ⟨n, en', kvs, hn, kk, hk, w, hw, q2⟩ => ?_
      subst en'
      obtain ⟨a', ys', ea, ta, _, ed', qq⟩ := dct_ok s2 hn (r1.ext e2)
      cases ea
      obtain ⟨z, hz, rz⟩ := (qq.val kk).1 w hw
      exact ⟨ys', kk, z, ed', kV_keyV hk r2, hz, post_here (put_dct s2 hn ta qq.drop) rz (post_ext (e1.trans e2) q2)⟩
    · cases h
  | c, .dpop2 o m d, X, Wx, g, e, h => by
    simp only [ckE] at h
    split at h
    · obtain ⟨h, h8⟩ := ba h
      obtain ⟨h, h7⟩ := ba h
      obtain ⟨h, h6⟩ := ba h
      obtain ⟨h, h5⟩ := ba h
      obtain ⟨h, h4⟩ := ba h
      obtain ⟨h, h3⟩ := ba h
      obtain ⟨h1, h2⟩ := ba h
      have hx := of_decide_eq_true h1
      subst hx
      refine (pe_dpop2 (sndE _ o X Wx g _ h2) (sndE _ m X Wx g _ h3) (sndE _ d X Wx g _ h7) (m2_ok h5 h6 h8 h4)).weak fun σ H Q ⟨F, β, Γ, S, s, en, q⟩ => ?_
      refine runE (call_mono T k) s en q (fun _ _ q => q) fun F1 β1 S1 H1 v x e1 s1 r1 ⟨⟨kvs0, hd0⟩, q1⟩ => ?_
      obtain ⟨a, ys, rfl, ed, _⟩ := hd0.ok s1 r1
      refine ⟨a, rfl, .inl ⟨ys, Rd.of ed⟩, ?_⟩
      refine runE (call_mono T k) s1 (en.ext e1) q1 (postX_ext e1) fun F2 β2 S2 H2 u y e2 s2 r2 q2 => ?_
      refine runE (call_mono T k) s2 (en.ext (e1.trans e2)) q2 (postX_ext (e1.trans e2)) fun F3 β3 S3 H3 w z e3 s3 r3 ⟨n, en', kvs, hn, kk, hk, q3⟩ => ?_
      subst en'
      obtain ⟨a', ys', ea, ta, _, ed', qq⟩ := dct_ok s3 hn (r1.ext (e2.trans e3))
      cases ea
      refine ⟨ys', kk, ed', kV_keyV hk (r2.ext e3), fun z' hz => ?_, fun hz => ?_⟩
      · rcases q3 with ⟨w', hw, q3⟩ | ⟨hw, q3⟩
        · obtain ⟨z2, hz2, rz⟩ := (qq.val kk).1 w' hw
          rw [hz2] at hz
          cases hz
          exact post_here (put_dct s3 hn ta qq.drop) rz (post_ext (e1.trans (e2.trans e3)) q3)
        · rw [(qq.val kk).2 hw] at hz; cases hz
      · rcases q3 with ⟨w', hw, q3⟩ | ⟨hw, q3⟩
        · obtain ⟨z2, hz2, rz⟩ := (qq.val kk).1 w' hw
          rw [hz2] at hz
          cases hz
        · exact post_here s3 r3 (post_ext (e1.trans (e2.trans e3)) q3)
    · cases h
theorem sndP : ∀ (c : Ctx) (m : Exs) (X : Cx) (Wx : WX), Gd c cA T k Wx X → ∀ (ks : List (Option Expr)) (vs : List Expr) (pos : Pos), ckP c m ks vs = true → ∃ trs, PPs X pos ks vs trs ∧ ∀ {σ : St} {F : Hp} {β : List Addr} {Γ : Env} {S : Sto} {H : Hp} {R : PL} {E0 : PX} {Q1 : List (V × V) → Hp → Prop}, Sim X.K cA F β S H → EnvR X.K F β Γ σ → WL (orc T k) m Γ S R E0 → (∀ c S, E0 c S → postX X.K cA F β Wx σ c S) →
    (∀ F' β' S1 H1 ws ps, Ext F β F' β' → Sim X.K cA F' β' S1 H1 → (∀ kvs, pairsV ws = some kvs → ∃ kys : List (Key × V), ps = kys.map (fun kv => (kV kv.1, kv.2)) ∧ VRk X.K F' β' kvs kys) → R ws S1 → Q1 ps H1) → tPairs trs σ H Q1
  | c, .nil, X, Wx, g, ks, vs, pos, h => by
    match ks, vs, h with
    | [], [], _ => exact ⟨[], pps_nil, fun {σ F β Γ S H R E0 Q1} s en w hE hh => hh F β S H [] [] (Ext.refl _ _) s (fun kvs e => by cases e; exact ⟨[], rfl, rfl⟩) w⟩
    | [], _ :: _, h => simp [ckP] at h
    | _ :: _, _, h => simp [ckP] at h
  | c, .cons m1 .nil, X, Wx, g, ks, vs, pos, h => by simp [ckP] at h
  | c, .cons m1 (.cons m2 r), X, Wx, g, ks, vs, pos, h => by
    match ks, vs, h with
    | some k' :: ks, v' :: vs, h =>
      have h := show (ckE c m1 k' && ckE c m2 v' && ckP c r ks vs) = true from h
      obtain ⟨h, h3⟩ := ba h
      obtain ⟨h1, h2⟩ := ba h
      obtain ⟨trs, hp, ih⟩ := sndP _ r X Wx g ks vs pos h3
      refine ⟨_, pps_cons (sndE _ m1 X Wx g _ h1) (sndE _ m2 X Wx g _ h2) hp, fun {σ F β Γ S H R E0 Q1} s en w hE hh => ?_⟩
      refine runE (call_mono T k) s en w hE fun F1 β1 S1 H1 v x e1 s1 r1 q1 => ?_
      refine runE (call_mono T k) s1 (en.ext e1) q1 (fun c' S' z => postX_ext e1 c' S' (hE c' S' z)) fun F2 β2 S2 H2 u y e2 s2 r2 q2 => ?_
      refine ih s2 (en.ext (e1.trans e2)) q2 (fun c' S' z => postX_ext (e1.trans e2) c' S' (hE c' S' z)) fun F3 β3 S3 H3 ws ps e3 s3 rp q3 => ?_
      refine hh F3 β3 S3 H3 (v :: u :: ws) ((x, y) :: ps) (e1.trans (e2.trans e3)) s3 (fun kvs hk => ?_) q3
      unfold pairsV at hk
      split at hk <;> first | cases hk | skip
      rename_i k0 r0 hk1 hk2
      obtain ⟨kys, e4, r4⟩ := rp _ hk2
      refine ⟨(k0, y) :: kys, ?_, ⟨y, kys, rfl, r2.ext e3, r4⟩⟩
      rw [e4, kV_keyV hk1 r1]; rfl
    | [], _, h => simp [ckP] at h
    | none :: _, _, h => simp [ckP] at h
    | some _ :: _, [], h => simp [ckP] at h
theorem sndOe : ∀ (c : Ctx) (m : Oe) (X : Cx) (Wx : WX), Gd c cA T k Wx X → ∀ (e : Option Expr), ckO c m e = true → PO X e (liftO X.K cA Wx (WOe (orc T k) m))
  | c, .none, X, Wx, g, e, h => by
    simp only [ckO] at h
    split at h
    · exact po_none.weak fun σ H Q ⟨F, β, Γ, S, s, en, q⟩ => q F β H (Ext.refl _ _) s
    · cases h
  | c, .some m, X, Wx, g, e, h => by
    simp only [ckO] at h
    split at h
    · refine (po_some (sndE _ m X Wx g _ h)).weak fun σ H Q ⟨F, β, Γ, S, s, en, q⟩ => ?_
      refine runE (call_mono T k) s en q (fun _ _ q => q) fun F1 β1 S1 H1 v x e1 s1 r1 ⟨i, ev, q1⟩ => ?_
      subst ev
      cases r1
      exact ⟨i, rfl, q1 F1 β1 H1 e1 s1⟩
    · cases h
theorem sndI : ∀ (c : Ctx) (m : It) (X : Cx) (Wx : WX), Gd c cA T k Wx X → ∀ (tg e : Expr), ckI c m tg e = true → PI X tg e (liftI X.K cA Wx (WI (orc T k) m))
  | c, .seq m, X, Wx, g, tg, e, h => by
    simp only [ckI] at h
    obtain ⟨h1, h2⟩ := ba h
    refine (pi_seqA (sndE _ m X Wx g _ h1)).weak fun σ H Q ⟨F, β, Γ, S, s, en, q⟩ => ?_
    refine runE (call_mono T k) s en q (fun _ _ q => q) fun F1 β1 S1 H1 v x e1 s1 r1 q1 => ?_
    obtain ⟨xs, G, hh, p⟩ := wSeq_ok s1 r1 q1
    rcases hh with ⟨a, ys, z1, z2, z3⟩ | ⟨a, ys, z1, z2, z3⟩ | ⟨a, z1, z3⟩
    · exact .inl ⟨a, ys, z1, z2, p F1 β1 H1 _ e1 s1 z3⟩
    · exact .inr (.inl ⟨a, ys, z1, z2, p F1 β1 H1 _ e1 s1 z3⟩)
    · exact .inr (.inr ⟨a, z1, p F1 β1 H1 _ e1 s1 z3⟩)
  | c, .range1 m, X, Wx, g, tg, e, h => by
    simp only [ckI] at h
    split at h
    · obtain ⟨h, h4⟩ := ba h
      obtain ⟨h, h3⟩ := ba h
      obtain ⟨h1, h2⟩ := ba h
      have hx := of_decide_eq_true h1
      subst hx
      refine (pi_range1 (g.gl _ h2) (g.blt _ (by decide)) (pa_cons (sndE _ m X Wx g _ h3) pa_nil (star_cons h4 _ _)) (star_cons h4 _ _)).weak fun σ H Q ⟨F, β, Γ, S, s, en, q⟩ => ?_
      refine runE (call_mono T k) s en q (fun _ _ q => q) fun F1 β1 S1 H1 v x e1 s1 r1 ⟨i, ev, l1, l2, q1⟩ => ?_
      subst ev
      cases r1
      exact ⟨i, rfl, l1, l2, q1 F1 β1 H1 _ e1 s1 itok_r⟩
    · cases h
  | c, .range2 m n, X, Wx, g, tg, e, h => by
    simp only [ckI] at h
    split at h
    · obtain ⟨h, h6⟩ := ba h
      obtain ⟨h, h5⟩ := ba h
      obtain ⟨h, h4⟩ := ba h
      obtain ⟨h, h3⟩ := ba h
      obtain ⟨h1, h2⟩ := ba h
      have hx := of_decide_eq_true h1
      subst hx
      refine (pi_range2 (g.gl _ h2) (g.blt _ (by decide)) (pa_cons (sndE _ m X Wx g _ h3) (pa_cons (sndE _ n X Wx g _ h5) pa_nil (star_cons h6 _ _)) (star_cons h4 _ _)) (by rw [star_cons h4, star_cons h6]; rfl) (star_cons h6 _ _)).weak fun σ H Q ⟨F, β, Γ, S, s, en, q⟩ => ?_
      refine runE (call_mono T k) s en q (fun _ _ q => q) fun F1 β1 S1 H1 v x e1 s1 r1 q1 => ?_
      refine runE (call_mono T k) s1 (en.ext e1) q1 (postX_ext e1) fun F2 β2 S2 H2 u y e2 s2 r2 ⟨i, ev, j, eu, l1, q2⟩ => ?_
      subst ev eu
      cases r1
      cases r2
      exact ⟨i, j, rfl, l1, q2 F2 β2 H2 _ (e1.trans e2) s2 itok_r⟩
    · cases h
  | c, .enum m, X, Wx, g, tg, e, h => by
    simp only [ckI] at h
    split at h
    · obtain ⟨h, h4⟩ := ba h
      obtain ⟨h, h3⟩ := ba h
      obtain ⟨h1, h2⟩ := ba h
      have hx := of_decide_eq_true h1
      subst hx
      refine (pi_enum (g.gl _ h2) (g.blt _ (by decide)) (pa_cons (sndE _ m X Wx g _ h3) pa_nil (star_cons h4 _ _)) (star_cons h4 _ _)).weak fun σ H Q ⟨F, β, Γ, S, s, en, q⟩ => ?_
      refine runE (call_mono T k) s en q (fun _ _ q => q) fun F1 β1 S1 H1 v x e1 s1 r1 q1 => ?_
      obtain ⟨a, ys, xs, G, ev, z1, z2, z3, p⟩ := wLst_ok s1 r1 q1
      subst ev
      exact ⟨a, ys, rfl, z1, p F1 β1 H1 _ e1 s1 (itok_e z3 ys z2)⟩
    · cases h
  | c, .zip m n, X, Wx, g, tg, e, h => by
    simp only [ckI] at h
    split at h
    · obtain ⟨h, h6⟩ := ba h
      obtain ⟨h, h5⟩ := ba h
      obtain ⟨h, h4⟩ := ba h
      obtain ⟨h, h3⟩ := ba h
      obtain ⟨h1, h2⟩ := ba h
      have hx := of_decide_eq_true h1
      subst hx
      refine (pi_zip (g.gl _ h2) (g.blt _ (by decide)) (pa_cons (sndE _ m X Wx g _ h3) (pa_cons (sndE _ n X Wx g _ h5) pa_nil (star_cons h6 _ _)) (star_cons h4 _ _)) (star_cons h4 _ _) (by rw [star_cons h6]; rfl)).weak fun σ H Q ⟨F, β, Γ, S, s, en, q⟩ => ?_
      refine runE (call_mono T k) s en q (fun _ _ q => q) fun F1 β1 S1 H1 v x e1 s1 r1 q1 => ?_
      refine runE (call_mono T k) s1 (en.ext e1) q1 (postX_ext e1) fun F2 β2 S2 H2 u y e2 s2 r2 q2 => ?_
      obtain ⟨a, ys, xs, G, ev, z1, z2, z3, q3⟩ := wLst_ok s2 (r1.ext e2) q2
      obtain ⟨b, ys', xs', G', eu, z4, z5, z6, p⟩ := wLst_ok s2 r2 q3
      subst ev eu
      exact ⟨a, b, ys, ys', rfl, z1, z4, p F2 β2 H2 _ (e1.trans e2) s2 (itok_z z3 ys z2 z6 ys' z5)⟩
    · cases h
  | c, .rev m, X, Wx, g, tg, e, h => by
    simp only [ckI] at h
    split at h
    · obtain ⟨h, h4⟩ := ba h
      obtain ⟨h, h3⟩ := ba h
      obtain ⟨h1, h2⟩ := ba h
      have hx := of_decide_eq_true h1
      subst hx
      refine (pi_reversed (g.gl _ h2) (g.blt _ (by decide)) (pa_cons (sndE _ m X Wx g _ h3) pa_nil (star_cons h4 _ _)) (star_cons h4 _ _)).weak fun σ H Q ⟨F, β, Γ, S, s, en, q⟩ => ?_
      refine runE (call_mono T k) s en q (fun _ _ q => q) fun F1 β1 S1 H1 v x e1 s1 r1 q1 => ?_
      obtain ⟨a, ys, xs, G, ev, z1, z2, z3, p⟩ := wLst_ok s1 r1 q1
      subst ev
      exact ⟨a, ys, rfl, z1, p F1 β1 H1 _ e1 s1 (itok_v z3 ys z2)⟩
    · cases h
theorem sndT0 : ∀ (c : Ctx) (m : Tes0) (X : Cx) (Wx : WX), Gd c cA T k Wx X → ∀ (e : List Expr), ckT0 c m e = true → PTs X e (liftT X.K cA Wx (fun Γ S P _ => WT0 (orc T k) m Γ S P))
  | c, .none, X, Wx, g, e, h => by
    simp only [ckT0] at h
    split at h
    · exact pts_nil.weak fun σ H Q ⟨F, β, Γ, S, s, en, q⟩ => q F β H (Ext.refl _ _) s
    · cases h
  | c, .some t, X, Wx, g, e, h => by
    simp only [ckT0] at h
    split at h
    · exact (pts_one (sndT _ t X Wx g _ h)).weak fun σ H Q ⟨F, β, Γ, S, s, en, q⟩ => ⟨F, β, Γ, S, s, en, WT_mono (call_mono T k) t _ _ _ _ _ _ (fun _ _ z => z) (fun _ _ z => z.elim) q⟩
    · cases h
theorem sndT : ∀ (c : Ctx) (m : Te) (X : Cx) (Wx : WX), Gd c cA T k Wx X → ∀ (e : Expr), ckT c m e = true → PT X e (liftT X.K cA Wx (WT (orc T k) m))
  | c, .val m, X, Wx, g, e, h => by
    simp only [ckT] at h
    obtain ⟨h1, h2⟩ := ba h
    by_cases hp : plainT e = true
    · refine (pt_truth (sndE _ m X Wx g _ h1) (fun whole => plainT_he hp _ _)).weak fun σ H Q ⟨F, β, Γ, S, s, en, q⟩ => ?_
      refine runE (call_mono T k) s en q (fun _ _ q => q) fun F1 β1 S1 H1 v x e1 s1 r1 ⟨b, q1, q2⟩ => ?_
      exact ⟨b, tru_ok2 s1 r1 q1, q2 F1 β1 H1 e1 s1⟩
    · have hc : isCmp m = true := by
        rcases Bool.or_eq_true_iff.mp h2 with z | z
        · exact absurd z hp
        · exact z
      match m, hc with
      | .cmp op a b, _ =>
        simp only [ckE] at h1
        split at h1
        · obtain ⟨h, h4⟩ := ba h1
          obtain ⟨h, h3⟩ := ba h
          obtain ⟨h1, h2⟩ := ba h
          obtain ⟨r, ho, hs⟩ := cmp_ok (X := X) (cA := cA) g.u65 h1
          refine (pt_cmpR ho (sndE _ a X Wx g _ h2) (sndE _ b X Wx g _ h3) (noSet_mark h4 _)).weak fun σ H Q ⟨F, β, Γ, S, s, en, q⟩ => ?_
          refine runE (call_mono T k) s en q (fun _ _ q => q) fun F1 β1 S1 H1 v x e1 s1 r1 q1 => ?_
          refine runE (call_mono T k) s1 (en.ext e1) q1 (postX_ext e1) fun F2 β2 S2 H2 u y e2 s2 r2 q2 => ?_
          refine hs F2 β2 S2 H2 v u x y _ s2 (r1.ext e2) r2 (wCmp_mono (fun z S3 ⟨⟨b, ez⟩, b', eb, z3⟩ => ?_) (wCmp_bl q2))
          subst ez
          cases eb
          intro F3 β3 H3 zz e3 s3 rz
          cases rz
          exact ⟨_, rfl, z3 F3 β3 H3 (e1.trans (e2.trans e3)) s3⟩
        · cases h1
      | .isN a, _ =>
        simp only [ckE] at h1
        split at h1
        · refine (pt_cmp (pc_isN (sndE _ a X Wx g _ h1)) rfl).weak fun σ H Q ⟨F, β, Γ, S, s, en, q⟩ => ?_
          refine runE (call_mono T k) s en q (fun _ _ q => q) fun F1 β1 S1 H1 v x e1 s1 r1 ⟨b, eb, q1⟩ => ?_
          cases eb
          rw [isNon_ok r1]
          exact ⟨_, rfl, q1 F1 β1 H1 e1 s1⟩
        · cases h1
      | .notN a, _ =>
        simp only [ckE] at h1
        split at h1
        · refine (pt_cmp (pc_notN (sndE _ a X Wx g _ h1)) rfl).weak fun σ H Q ⟨F, β, Γ, S, s, en, q⟩ => ?_
          refine runE (call_mono T k) s en q (fun _ _ q => q) fun F1 β1 S1 H1 v x e1 s1 r1 ⟨b, eb, q1⟩ => ?_
          cases eb
          rw [isNon_ok r1]
          exact ⟨_, rfl, q1 F1 β1 H1 e1 s1⟩
        · cases h1
      | .chain op op' a b d, _ =>
        simp only [ckE] at h1
        split at h1
        · obtain ⟨h, h6⟩ := ba h1
          obtain ⟨h, h5⟩ := ba h
          obtain ⟨h, h4⟩ := ba h
          obtain ⟨h, h3⟩ := ba h
          obtain ⟨h1, h2⟩ := ba h
          obtain ⟨r, ho, hs⟩ := cmp_ok (X := X) (cA := cA) g.u65 h1
          obtain ⟨r', ho', hs'⟩ := cmp_ok (X := X) (cA := cA) g.u65 h2
          refine (pt_chain ho ho' (sndE _ a X Wx g _ h3) (sndE _ b X Wx g _ h4) (sndE _ d X Wx g _ h5) (noSet_mark h6 _)).weak fun σ H Q ⟨F, β, Γ, S, s, en, q⟩ => ?_
          refine runE (call_mono T k) s en q (fun _ _ q => q) fun F1 β1 S1 H1 v x e1 s1 r1 q1 => ?_
          refine runE (call_mono T k) s1 (en.ext e1) q1 (postX_ext e1) fun F2 β2 S2 H2 u y e2 s2 r2 q2 => ?_
          refine hs F2 β2 S2 H2 v u x y _ s2 (r1.ext e2) r2 (wCmp_mono (fun z S3 ⟨kk, ez, z3⟩ => ?_) q2)
          subst ez
          intro F3 β3 H3 zz e3 s3 rz
          cases rz
          refine ⟨kk, rfl, ?_⟩
          cases kk with
          | true =>
            refine runE (call_mono T k) s3 (en.ext (e1.trans (e2.trans e3))) z3 (postX_ext (e1.trans (e2.trans e3))) fun F4 β4 S4 H4 w y4 e4 s4 r4 q4 => ?_
            refine hs' F4 β4 S4 H4 u w y y4 _ s4 (r2.ext (e3.trans e4)) r4 (wCmp_mono (fun z S3 ⟨⟨b, ez⟩, b', eb, z3⟩ => ?_) (wCmp_bl q4))
            subst ez
            cases eb
            intro F5 β5 H5 zz e5 s5 rz
            cases rz
            exact ⟨_, rfl, z3 F5 β5 H5 (e1.trans (e2.trans (e3.trans (e4.trans e5)))) s5⟩
          | false =>
            obtain ⟨b', eb, z3⟩ := z3
            cases eb
            exact ⟨_, rfl, z3 F3 β3 H3 (e1.trans (e2.trans e3)) s3⟩
        · cases h1
  | c, .not t, X, Wx, g, e, h => by
    simp only [ckT] at h
    split at h
    · refine (pt_not (sndT _ t X Wx g _ h)).weak fun σ H Q ⟨F, β, Γ, S, s, en, q⟩ => ?_
      exact runT (call_mono T k) s en q (fun _ _ q => q) fun F1 β1 S1 H1 v e1 s1 q1 => q1 F1 β1 H1 e1 s1
    · cases h
  | c, .and ts, X, Wx, g, e, h => by
    simp only [ckT] at h
    split at h
    · exact (sndA _ ts X Wx g _ _ h).pt.weak fun σ H Q q => q
    · cases h
  | c, .or ts, X, Wx, g, e, h => by
    simp only [ckT] at h
    split at h
    · exact (sndO _ ts X Wx g _ _ h).pt.weak fun σ H Q q => q
    · cases h
theorem sndA : ∀ (c : Ctx) (m : Tes) (X : Cx) (Wx : WX), Gd c cA T k Wx X → ∀ (es : List Expr) (pos : Pos), ckTs c m es = true → PW X (.BoolOp .And es pos) (liftT X.K cA Wx (WA (orc T k) m))
  | c, .one t, X, Wx, g, es, pos, h => by
    simp only [ckTs] at h
    split at h
    · exact (pw_and1 (sndT _ t X Wx g _ h)).weak fun σ H Q q => q
    · cases h
  | c, .cons t ts, X, Wx, g, es, pos, h => by
    simp only [ckTs] at h
    split at h
    · obtain ⟨h1, h2⟩ := ba h
      refine (pw_and (sndT _ t X Wx g _ h1) (sndA _ ts X Wx g _ pos h2)).weak fun σ H Q ⟨F, β, Γ, S, s, en, q⟩ => ?_
      refine runT (call_mono T k) s en q (fun _ _ q => q) fun F1 β1 S1 H1 v e1 s1 q1 => ?_
      cases v with
      | true => exact ⟨F1, β1, Γ, S1, s1, en.ext e1, WA_mono (call_mono T k) ts _ _ _ _ _ _ (fun b S2 z F2 β2 H2 e2 s2 => z F2 β2 H2 (e1.trans e2) s2) (postX_ext e1) q1⟩
      | false => exact q1 F1 β1 H1 e1 s1
    · cases h
theorem sndO : ∀ (c : Ctx) (m : Tes) (X : Cx) (Wx : WX), Gd c cA T k Wx X → ∀ (es : List Expr) (pos : Pos), ckTs c m es = true → PW X (.BoolOp .Or es pos) (liftT X.K cA Wx (WO (orc T k) m))
  | c, .one t, X, Wx, g, es, pos, h => by
    simp only [ckTs] at h
    split at h
    · exact (pw_or1 (sndT _ t X Wx g _ h)).weak fun σ H Q q => q
    · cases h
  | c, .cons t ts, X, Wx, g, es, pos, h => by
    simp only [ckTs] at h
    split at h
    · obtain ⟨h1, h2⟩ := ba h
      refine (pw_or (sndT _ t X Wx g _ h1) (sndO _ ts X Wx g _ pos h2)).weak fun σ H Q ⟨F, β, Γ, S, s, en, q⟩ => ?_
      refine runT (call_mono T k) s en q (fun _ _ q => q) fun F1 β1 S1 H1 v e1 s1 q1 => ?_
      cases v with
      | false => exact ⟨F1, β1, Γ, S1, s1, en.ext e1, WO_mono (call_mono T k) ts _ _ _ _ _ _ (fun b S2 z F2 β2 H2 e2 s2 => z F2 β2 H2 (e1.trans e2) s2) (postX_ext e1) q1⟩
      | true => exact q1 F1 β1 H1 e1 s1
    · cases h
theorem sndB : ∀ (c : Ctx) (m : Te) (X : Cx) (Wx : WX), Gd c cA T k Wx X → ∀ (e : Expr), ckT c m e = true → PE X e (liftE X.K cA Wx (WB (orc T k) m))
  | c, .val m, X, Wx, g, e, h => by
    simp only [ckT] at h
    exact (sndE _ m X Wx g e (ba h).1).weak fun σ H Q q => q
  | c, .not t, X, Wx, g, e, h => by
    simp only [ckT] at h
    split at h
    · refine (pe_not (sndB _ t X Wx g _ h)).weak fun σ H Q ⟨F, β, Γ, S, s, en, q⟩ => ?_
      refine runB (call_mono T k) s en q (fun _ _ q => q) fun F1 β1 S1 H1 v x e1 s1 r1 ⟨b, eb, q1⟩ => ?_
      subst eb
      cases r1
      exact ⟨b, rfl, post_here (v := .bl _) s1 rfl (post_ext e1 q1)⟩
    · cases h
  | c, .and ts, X, Wx, g, e, h => by
    simp only [ckT] at h
    split at h
    · exact (sndBA _ ts X Wx g _ _ h).weak fun σ H Q q => q
    · cases h
  | c, .or ts, X, Wx, g, e, h => by
    simp only [ckT] at h
    split at h
    · exact (sndBO _ ts X Wx g _ _ h).weak fun σ H Q q => q
    · cases h
theorem sndBA : ∀ (c : Ctx) (m : Tes) (X : Cx) (Wx : WX), Gd c cA T k Wx X → ∀ (es : List Expr) (pos : Pos), ckTs c m es = true → PE X (.BoolOp .And es pos) (liftE X.K cA Wx (WBA (orc T k) m))
  | c, .one t, X, Wx, g, es, pos, h => by
    simp only [ckTs] at h
    split at h
    · exact (pe_one (sndB _ t X Wx g _ h)).weak fun σ H Q q => q
    · cases h
  | c, .cons t ts, X, Wx, g, es, pos, h => by
    simp only [ckTs] at h
    split at h
    · obtain ⟨h1, h2⟩ := ba h
      refine (pe_and (sndB _ t X Wx g _ h1) (sndBA _ ts X Wx g _ pos h2)).weak fun σ H Q ⟨F, β, Γ, S, s, en, q⟩ => ?_
      refine runB (call_mono T k) s en q (fun _ _ q => q) fun F1 β1 S1 H1 v x e1 s1 r1 ⟨b, eb, q1⟩ => ?_
      subst eb
      cases r1
      refine ⟨b, rfl, ?_⟩
      cases b with
      | true => exact ⟨F1, β1, Γ, S1, s1, en.ext e1, WBA_mono (call_mono T k) ts _ _ _ _ _ _ (fun b S2 z => post_ext e1 z) (postX_ext e1) q1⟩
      | false => exact post_here (v := .bl _) s1 rfl (post_ext e1 q1)
    · cases h
theorem sndBO : ∀ (c : Ctx) (m : Tes) (X : Cx) (Wx : WX), Gd c cA T k Wx X → ∀ (es : List Expr) (pos : Pos), ckTs c m es = true → PE X (.BoolOp .Or es pos) (liftE X.K cA Wx (WBO (orc T k) m))
  | c, .one t, X, Wx, g, es, pos, h => by
    simp only [ckTs] at h
    split at h
    · exact (pe_one (sndB _ t X Wx g _ h)).weak fun σ H Q q => q
    · cases h
  | c, .cons t ts, X, Wx, g, es, pos, h => by
    simp only [ckTs] at h
    split at h
    · obtain ⟨h1, h2⟩ := ba h
      refine (pe_or (sndB _ t X Wx g _ h1) (sndBO _ ts X Wx g _ pos h2)).weak fun σ H Q ⟨F, β, Γ, S, s, en, q⟩ => ?_
      refine runB (call_mono T k) s en q (fun _ _ q => q) fun F1 β1 S1 H1 v x e1 s1 r1 ⟨b, eb, q1⟩ => ?_
      subst eb
      cases r1
      refine ⟨b, rfl, ?_⟩
      cases b with
      | false => exact ⟨F1, β1, Γ, S1, s1, en.ext e1, WBO_mono (call_mono T k) ts _ _ _ _ _ _ (fun b S2 z => post_ext e1 z) (postX_ext e1) q1⟩
      | true => exact post_here (v := .bl _) s1 rfl (post_ext e1 q1)
    · cases h
theorem sndL : ∀ (c : Ctx) (m : Exs) (X : Cx) (Wx : WX), Gd c cA T k Wx X → ∀ (e : List Expr), ckL c m e = true → PA X e (liftL X.K cA Wx (WL (orc T k) m))
  | c, .nil, X, Wx, g, e, h => by
    simp only [ckL] at h
    split at h
    · exact pa_nil.weak fun σ H Q ⟨F, β, Γ, S, s, en, q⟩ => q F β H [] (Ext.refl _ _) s rfl
    · cases h
  | c, .cons m ms, X, Wx, g, e, h => by
    simp only [ckL] at h
    split at h
    · obtain ⟨h, h3⟩ := ba h
      obtain ⟨h1, h2⟩ := ba h
      refine (pa_cons (sndE _ m X Wx g _ h1) (sndL _ ms X Wx g _ h3) (star_cons h2 _ _)).weak fun σ H Q ⟨F, β, Γ, S, s, en, q⟩ => ?_
      refine runE (call_mono T k) s en q (fun _ _ q => q) fun F1 β1 S1 H1 v x e1 s1 r1 q1 => ?_
      refine runL (call_mono T k) s1 (en.ext e1) q1 (postX_ext e1) fun F2 β2 S2 H2 vs xs e2 s2 r2 q2 => ?_
      exact q2 F2 β2 H2 (x :: xs) (e1.trans e2) s2 ⟨x, xs, rfl, r1.ext e2, r2⟩
    · cases h
end
end
end AM
end

section
set_option linter.all false
set_option maxRecDepth 100000
set_option maxHeartbeats 4000000
/-! AM, seventh part: statements; a store cut; calls. -/
namespace AM
open PySem L2

theorem _root_.L2.PS.weak {X : Cx} {e : Stmt} {t t' : TS} (h : PS X e t) (w : ∀ D σ H, t' D σ H → t D σ H) : PS X e t' := ⟨fun pins s σ H D I q => h.run pins s σ H D I (w _ _ _ q)⟩
theorem _root_.L2.PSs.weak {X : Cx} {e : List Stmt} {t t' : TS} (h : PSs X e t) (w : ∀ D σ H, t' D σ H → t D σ H) : PSs X e t' := ⟨fun pins s σ H D I q => h.run pins s σ H D I (w _ _ _ q)⟩

section
variable (K : PySem.W.Frag) (cA : Str → Addr)
def postG (F : Hp) (β : List Addr) (N : St → Hp → Prop) : Env → Sto → Prop := fun Γ' S' => ∀ F' β' H' σ', Ext F β F' β' → Sim K cA F' β' S' H' → EnvR K F' β' Γ' σ' → N σ' H'
def ends (Wx : WX) (F : Hp) (β : List Addr) (D : Ends) : AEnds where
  nx := postG K cA F β D.nx
  rt := post K cA F β D.rt
  bk := postG K cA F β D.bk
  ct := postG K cA F β D.ct
  ex := fun c => postG K cA F β fun σ' H' => Wx (.ref (cA c)) none σ' H'
def liftS (Wx : WX) (w : AEnds → Env → Sto → Prop) : TS := fun D σ H => ∃ F β Γ S, Sim K cA F β S H ∧ EnvR K F β Γ σ ∧ w (ends K cA Wx F β D) Γ S
end
section
variable {K : PySem.W.Frag} {cA : Str → Addr} {F F' : Hp} {β β' : List Addr} {Wx : WX}
theorem postG_ext {N : St → Hp → Prop} (e : Ext F β F' β') : ∀ Γ S, postG K cA F β N Γ S → postG K cA F' β' N Γ S := fun Γ S h F2 β2 H2 σ2 e2 s g => h F2 β2 H2 σ2 (e.trans e2) s g
theorem ends_ext {D : Ends} (e : Ext F β F' β') : DMono (ends K cA Wx F β D) (ends K cA Wx F' β' D) :=
  ⟨postG_ext e, fun v S h => post_ext e h, postG_ext e, postG_ext e, fun c => postG_ext e⟩
theorem ex_post {D : Ends} {σ : St} {Γ : Env} (g : EnvR K F β Γ σ) : ∀ (c : Str) (S : Sto), (ends K cA Wx F β D).ex c Γ S → postX K cA F β Wx σ c S := fun c S h F2 β2 H2 e s => h F2 β2 H2 σ e s (g.ext e)
end

theorem noSwap_sw {e : Expr} {x : Str} {p : Pos} {env : PySem.Env} (h : noSwap env.scope x p e = true) (l : Nat) : swapsWith e (some (.Name x p)) l env = pure false := by
  have key : noComp e = true ∨ ∃ elt gs scope pos, e = .ListComp elt gs scope pos := by
    cases e <;> first | exact .inr ⟨_, _, _, _, rfl⟩ | exact .inl h
  rcases key with key | ⟨elt, gs, scope, pos, rfl⟩
  · exact noComp_sw key _ _ _
  unfold noSwap at h
  unfold swapsWith
  simp only []
  have e1 : (env.blockKind == .function && env.kindOf x == some .local && p.line == (Expr.ListComp elt gs scope pos).pos.line && !(scope.names.any fun (n, k) => n == x && (k == .local || k == .cell))) = false := by
    have hk : (env.kindOf x == some .local) = decide (env.scope.names.lookup x = some .local) := by
      show (env.scope.names.lookup x == some .local) = _
      rw [Bool.eq_iff_iff]; simp
    have h2 : (decide (env.scope.names.lookup x = some .local) && (p.line == pos.line) && !(scope.names.any fun (n, k) => n == x && (k == .local || k == .cell))) = false := by
      cases hb : (decide (env.scope.names.lookup x = some .local) && (p.line == pos.line) && !(scope.names.any fun (n, k) => n == x && (k == .local || k == .cell))) with
      | false => rfl
      | true => exact absurd (show (!(decide (env.scope.names.lookup x = some .local) && (p.line == pos.line) && !(scope.names.any fun (n, k) => n == x && (k == .local || k == .cell)))) = true from h) (by rw [hb]; decide)
    rw [hk]
    show (_ && _ && (p.line == pos.line) && _) = false
    rw [Bool.and_assoc, Bool.and_assoc, ← Bool.and_assoc (decide _), h2, Bool.and_false]
  rw [e1]
theorem yesSwap_sw {elt : Expr} {gs : List Comprehension} {scope : Scope} {pos : Pos} {x : Str} {p : Pos} {env : PySem.Env} (hk : env.scope.kind = .function) (h : yesSwap env.scope x p (.ListComp elt gs scope pos) = true) (l : Nat) : env.scope.names.lookup x = some .local ∧ swapsWith (.ListComp elt gs scope pos) (some (.Name x p)) l env = pure true := by
  unfold yesSwap at h
  obtain ⟨h, h3⟩ := ba h
  obtain ⟨h1, h2⟩ := ba h
  have h4 := of_decide_eq_true h1
  exact ⟨h4, sw_true hk h4 h2 (by simpa using h3)⟩
theorem noTup_sw {ts : List Expr} {e : Expr} {k : Nat} {p : Pos} (h : noTup e = true) (env : PySem.Env) : swappedStores [.Tuple ts k p] e env = pure none := by
  cases e <;> first | rfl | cases h
theorem noComp_sole {e : Expr} (h : noComp e = true) (t : Expr) (l : Nat) (env : PySem.Env) : swapsWithSole [t] e l env = pure false := noComp_sw h _ _ _
theorem noSlice_asg {i : Expr} (h : noSlice i = true) (o : Expr) (pos : Pos) (env : PySem.Env) (v : Value) : assign (.Subscript o i pos) env v = (do
      let ov ← holding [v] (eval o env)
      let iv ← holding [v, ov] (eval i env)
      standAt pos
      holding [v, ov, iv] (setItem ov iv v)
      release [v, ov, iv] []) := by
  cases i <;> first | rfl | cases h
theorem set_or {X : Cx} (hu : X.A.units + 1 < cLine) : PSet X (fun o i v H Q => rSetL o i v H Q ∨ ∃ a H', o = .ref a ∧ DPut H a i v H' ∧ Q H') := fun pins s σ H o i v ov iv u Q I ro ri rv h => by
  rcases h with h | ⟨a, H', rfl, hd, q⟩
  · exact set_list pins s σ H o i v ov iv u Q I ro ri rv h
  · cases ro
    exact d_setItem hu I hd ri rv fun s' I' => ⟨H', I', q⟩
theorem putFO_ok {C : Orc} {f : Str} {v : Va} {ob ob' : Ob} (h : putFO C f v ob = some ob') : ∃ c fs, ob = .ins c fs ∧ ob' = .ins c (putFA f v fs) ∧ C.noat c f = true ∧ fs.length < 1000 := by
  cases ob with
  | ins c fs =>
    simp only [putFO] at h
    split at h
    · rename_i hn; cases h; exact ⟨c, fs, rfl, rfl, hn.1, hn.2⟩
    · cases h
  | _ => cases h
section
variable {c : Ctx} {cA : Str → Addr} {T : Tab} {k : Nat}
theorem pass_str {s : Stmt} {X : Cx} {t : TS} (hp : ∀ pos, PS X (.Pass pos) t) (hd : ∀ x j p p', PS X (.Expr (.Constant (.str x) j p) p') t) (h : (match s with
    | .Pass _ => true
    | .Expr (.Constant (.str _) _ _) _ => true
    | _ => false) = true) : PS X s t := by
  split at h
  · exact hp _
  · exact hd _ _ _ _
  · cases h
mutual
theorem sndS : ∀ (m : Sm) (X : Cx) (Wx : WX), Gd c cA T k Wx X → ∀ (st : Stmt), ckS c m st = true → PS X st (liftS X.K cA Wx (WS (orc T k) m))
  | .set i e, X, Wx, g, st, h => by
    simp only [ckS] at h
    split at h
    · obtain ⟨h, h4⟩ := ba h
      obtain ⟨h, h3⟩ := ba h
      obtain ⟨h1, h2⟩ := ba h
      obtain ⟨hl, hf⟩ := g.loc _ h2
      refine (ps_set (i := i) g.nd (by rw [g.hN]; exact of_decide_eq_true h1) hl (sndE _ e X Wx g _ h3) (noSwap_sw (by rw [g.sc]; exact h4) _) hf).weak fun D σ H ⟨F, β, Γ, S, s, en, q⟩ => ?_
      refine runE (call_mono T k) s en q (ex_post en) fun F1 β1 S1 H1 v x e1 s1 r1 q1 => ?_
      exact q1 F1 β1 H1 _ e1 s1 ((en.ext e1).set r1)
    · cases h
  | .ret e, X, Wx, g, st, h => by
    simp only [ckS] at h
    split at h
    · refine (ps_ret (sndE _ e X Wx g _ h)).weak fun D σ H ⟨F, β, Γ, S, s, en, q⟩ => ?_
      refine runE (call_mono T k) s en q (ex_post en) fun F1 β1 S1 H1 v x e1 s1 r1 q1 => ?_
      exact q1 F1 β1 H1 _ e1 s1 r1
    · cases h
  | .retN, X, Wx, g, st, h => by
    simp only [ckS] at h
    split at h
    · exact ps_retN.weak fun D σ H ⟨F, β, Γ, S, s, en, q⟩ => q F β H _ (Ext.refl _ _) s rfl
    · cases h
  | .pass, X, Wx, g, st, h => by
    simp only [ckS] at h
    exact pass_str (fun pos => ps_pass.weak fun D σ H ⟨F, β, Γ, S, s, en, q⟩ => q F β H _ (Ext.refl _ _) s en) (fun x j p p' => ps_doc.weak fun D σ H ⟨F, β, Γ, S, s, en, q⟩ => q F β H _ (Ext.refl _ _) s en) h
  | .brk, X, Wx, g, st, h => by
    simp only [ckS] at h
    split at h
    · exact ps_break.weak fun D σ H ⟨F, β, Γ, S, s, en, q⟩ => q F β H _ (Ext.refl _ _) s en
    · cases h
  | .cont, X, Wx, g, st, h => by
    simp only [ckS] at h
    split at h
    · exact ps_continue.weak fun D σ H ⟨F, β, Γ, S, s, en, q⟩ => q F β H _ (Ext.refl _ _) s en
    · cases h
  | .drop e, X, Wx, g, st, h => by
    simp only [ckS] at h
    split at h
    · obtain ⟨h1, h2⟩ := ba h
      refine (ps_expr (sndE _ e X Wx g _ h1) (noComp_sw h2 _ _ _)).weak fun D σ H ⟨F, β, Γ, S, s, en, q⟩ => ?_
      refine runE (call_mono T k) s en q (ex_post en) fun F1 β1 S1 H1 v x e1 s1 r1 q1 => ?_
      exact q1 F1 β1 H1 _ e1 s1 (en.ext e1)
    · cases h
  | .ite t a b, X, Wx, g, st, h => by
    simp only [ckS] at h
    split at h
    · obtain ⟨h, h3⟩ := ba h
      obtain ⟨h1, h2⟩ := ba h
      refine (ps_if (sndT _ t X Wx g _ h1) (sndSs a X Wx g _ h2) (sndSs b X Wx g _ h3)).weak fun D σ H ⟨F, β, Γ, S, s, en, q⟩ => ?_
      refine runT (call_mono T k) s en q (ex_post en) fun F1 β1 S1 H1 v e1 s1 q1 => ?_
      cases v with
      | true => exact ⟨F1, β1, Γ, S1, s1, en.ext e1, WSs_mono (call_mono T k) a _ _ _ _ (ends_ext e1) q1⟩
      | false => exact ⟨F1, β1, Γ, S1, s1, en.ext e1, WSs_mono (call_mono T k) b _ _ _ _ (ends_ext e1) q1⟩
    · cases h
  | .whil t b, X, Wx, g, st, h => by
    simp only [ckS] at h
    split at h
    · obtain ⟨h1, h2⟩ := ba h
      refine (ps_while g.pass (sndT _ t X Wx g _ h1) (sndSs b X Wx g _ h2)).weak fun D σ H ⟨F, β, Γ, S, s, en, n, q⟩ => ?_
      refine ⟨fun m σ H => ∃ F' β' Γ S, Ext F β F' β' ∧ Sim X.K cA F' β' S H ∧ EnvR X.K F' β' Γ σ ∧
        whN (fun Γ S P => WT (orc T k) t Γ S P (fun x S1 => (ends X.K cA Wx F β D).ex x Γ S1)) (fun Nx Γ S => WSs (orc T k) b { ends X.K cA Wx F β D with nx := Nx, ct := Nx, bk := (ends X.K cA Wx F β D).nx } Γ S) (ends X.K cA Wx F β D).nx m Γ S,
        ⟨n, F, β, Γ, S, Ext.refl _ _, s, en, q⟩, ?_⟩
      rintro m σ H ⟨F1, β1, Γ, S, e1, s1, en1, q⟩
      cases m with
      | zero => exact q.elim
      | succ m =>
        refine runT (call_mono T k) s1 en1 q (fun c' S' z => ex_post (D := D) en1 c' S' (postG_ext e1 _ _ z)) fun F2 β2 S2 H2 v e2 s2 q2 => ?_
        cases v with
        | false => exact q2 F2 β2 H2 _ (e1.trans e2) s2 (en1.ext e2)
        | true =>
          refine ⟨_, fun σ' H' z => ⟨m, Nat.lt_succ_self m, z⟩, F2, β2, Γ, S2, s2, en1.ext e2, ?_⟩
          refine WSs_mono (call_mono T k) b _ _ _ _ ⟨?_, fun v S h => post_ext (e1.trans e2) h, postG_ext (e1.trans e2), ?_, fun c => postG_ext (e1.trans e2)⟩ q2
          · exact fun Γ3 S3 z F3 β3 H3 σ3 e3 s3 g3 => ⟨F3, β3, Γ3, S3, e1.trans (e2.trans e3), s3, g3, z⟩
          · exact fun Γ3 S3 z F3 β3 H3 σ3 e3 s3 g3 => ⟨F3, β3, Γ3, S3, e1.trans (e2.trans e3), s3, g3, z⟩
    · cases h
  | .raise x, X, Wx, g, st, h => by
    simp only [ckS] at h
    split at h
    · obtain ⟨h, h3⟩ := ba h
      obtain ⟨h1, h2⟩ := ba h
      have hx := of_decide_eq_true h1
      subst hx
      obtain ⟨gC, xC, kC, rC⟩ := g.exc _ (by simpa using h3)
      refine (ps_raise g.calm g.tk (pmk_own PySem.F.excBase_ValueError xC gC kC rC (g.gl _ h2) (by have := (ba (ba h2).1).2; simpa using this))).weak fun D σ H ⟨F, β, Γ, S, s, en, q⟩ => ?_
      exact q F β H _ (Ext.refl _ _) s en
    · cases h
  | .asg tg e, X, Wx, g, st, h => by
    simp only [ckS] at h
    split at h
    · obtain ⟨h, h4⟩ := ba h
      obtain ⟨h, h3⟩ := ba h
      obtain ⟨h1, h2⟩ := ba h
      refine (ps_asg (sndE _ e X Wx g _ h2) (sndG (cA := cA) tg X g.hN g.nd g.loc g.calm _ h1) (noComp_sole h3 _ _ _) (noTup_sw h4 _)).weak fun D σ H ⟨F, β, Γ, S, s, en, q⟩ => ?_
      refine runE (call_mono T k) s en q (ex_post en) fun F1 β1 S1 H1 v x e1 s1 r1 ⟨Γ1, hb, q1⟩ => ?_
      exact ⟨F1, β1, Γ, S1, v, Γ1, s1, en.ext e1, r1, hb, fun σ' en' _ _ => q1 F1 β1 H1 _ e1 s1 en'⟩
    · cases h
  | .setSub o i e, X, Wx, g, st, h => by
    simp only [ckS] at h
    split at h
    · obtain ⟨h, h5⟩ := ba h
      obtain ⟨h, h4⟩ := ba h
      obtain ⟨h, h3⟩ := ba h
      obtain ⟨h1, h2⟩ := ba h
      refine (ps_asg (sndE _ e X Wx g _ h3) (pg_sub (sndE _ o X Wx g _ h1) (sndE _ i X Wx g _ h2) (set_or (by have := g.u65; omega)) (noSlice_asg h4 _ _ _)) (noComp_sole h5 _ _ _) rfl).weak fun D σ H ⟨F, β, Γ, S, s, en, q⟩ => ?_
      refine runE (call_mono T k) s en q (ex_post en) fun F1 β1 S1 H1 v x e1 s1 r1 q1 => ?_
      refine runE (call_mono T k) s1 (en.ext e1) q1 (fun c' S' z => postX_ext e1 c' S' (ex_post en c' S' z)) fun F2 β2 S2 H2 u y e2 s2 r2 q2 => ?_
      refine runE (call_mono T k) s2 (en.ext (e1.trans e2)) q2 (fun c' S' z => postX_ext (e1.trans e2) c' S' (ex_post en c' S' z)) fun F3 β3 S3 H3 w z e3 s3 r3 ⟨kk, eu, ob, h0, ob', hp, q3⟩ => ?_
      subst eu
      have eE := e1.trans (e2.trans e3)
      cases ob with
      | lst xs =>
        cases w with
        | int j =>
          obtain ⟨n, h6, h7⟩ := Option.map_eq_some_iff.mp hp
          subst h7
          obtain ⟨a, ys, rfl, ha, e5, q5⟩ := loc_ok s3 h0 (r2.ext e3)
          cases r3
          refine .inl ⟨a, ys, j, n, rfl, rfl, e5, by rw [← q5.len]; exact h6, ?_⟩
          exact q3 F3 β3 _ _ eE (put_lst s3 h0 ha (q5.set n (r1.ext (e2.trans e3)))) (en.ext eE)
        | _ => cases hp
      | dct kvs =>
        simp only [putO] at hp
        split at hp
        · rename_i kq hk
          split at hp
          · rename_i hl
            cases hp
            obtain ⟨a, ys, rfl, ha, _, e5, q5⟩ := dct_ok s3 h0 (r2.ext e3)
            refine .inr ⟨a, _, rfl, by rw [kV_keyV hk r3]; exact .k e5 (by rw [← q5.len]; exact Nat.lt_trans hl (by decide)), ?_⟩
            exact q3 F3 β3 _ _ eE (put_dct s3 h0 ha (q5.put (r1.ext (e2.trans e3)))) (en.ext eE)
          · cases hp
        · cases hp
      | _ => cases hp
    · cases h
  | .aug i op e, X, Wx, g, st, h => by
    simp only [ckS] at h
    split at h
    · obtain ⟨h, h4⟩ := ba h
      obtain ⟨h, h3⟩ := ba h
      obtain ⟨h1, h2⟩ := ba h
      obtain ⟨h3, h8⟩ := ba h3
      obtain ⟨hl, hf⟩ := g.loc _ h2
      have hi := of_decide_eq_true h1
      rw [← g.hN] at hi
      have key : ∀ (f : Int → Int → Int), (∀ n m : Int, augI op n m = some (f n m)) → ∀ D σ H, liftS X.K cA Wx (WS (orc T k) (.aug i op e)) D σ H → tAug i (liftE X.K cA Wx (W (orc T k) e)) (ipI f) D σ H := by
        rintro f hf D σ H ⟨F, β, Γ, S, s, en, x, hx, q⟩
        obtain ⟨y, e0, r⟩ := en.get hx
        refine ⟨y, e0, ?_⟩
        refine runE (call_mono T k) s en q (ex_post en) fun F1 β1 S1 H1 v z e1 s1 r1 ⟨n, ex, m, ev, r', hr, q1⟩ => ?_
        subst ex ev
        cases r; cases r1
        rw [hf] at hr
        cases hr
        exact ⟨n, m, rfl, rfl, q1 F1 β1 H1 _ e1 s1 ((en.ext e1).set (v := .int _) rfl)⟩
      cases op with
      | add =>
        unfold bopB at h3
        split at h3 <;> first | cases h3 | skip
        all_goals simp only [reduceCtorEq] at *
        exact (ps_aug (i := i) g.nd hi hl (sndE _ e X Wx g _ h4) ip_add hf).weak (key _ fun _ _ => rfl)
      | sub =>
        unfold bopB at h3
        split at h3 <;> first | cases h3 | skip
        all_goals simp only [reduceCtorEq] at *
        exact (ps_aug (i := i) g.nd hi hl (sndE _ e X Wx g _ h4) ip_sub hf).weak (key _ fun _ _ => rfl)
      | _ => simp at h8
    · cases h
  | .setC i own elt tg it cond, X, Wx, g, st, h => by
    simp only [ckS] at h
    split at h
    · rename_i x p elt' tg' it' ifs scope pos spos
      obtain ⟨hh, h⟩ := ba h
      obtain ⟨hi, hsw⟩ := ba hh
      obtain ⟨h, h6⟩ := ba h
      obtain ⟨h, h5⟩ := ba h
      obtain ⟨h, h4⟩ := ba h
      obtain ⟨h, h3⟩ := ba h
      obtain ⟨h1, h2⟩ := ba h
      have hblk : BlkOk X.N X.env.scope scope (ownA c.N own) := by
        rw [g.hN, g.sc]; exact blkOk_by h1
      obtain ⟨hy, hsw2⟩ := yesSwap_sw (env := X.env) (by rw [g.sc]; exact g.kind) (by rw [g.sc]; exact hsw) spos.line
      refine (ps_setLc (i := i) (g := liftG X.K cA (tgS tg) fun S v Γ => bindT S tg v Γ) (tt := liftT X.K cA (fun _ _ _ _ => False) (fun Γ S P _ => WT0 (orc T k) cond Γ S P)) (te := liftE X.K cA (fun _ _ _ _ => False) (W (orc T k) elt)) g.calm g.nd (by rw [g.hN]; exact of_decide_eq_true hi) hy hsw2 (sndI _ it X Wx g _ _ h2) hblk (fun s H C cl fp => sndG tg _ (g.inn hblk.kind s H C cl fp).hN g.nd (g.inn hblk.kind s H C cl fp).loc g.calm _ h3)
        (fun s H C cl fp => sndT0 _ cond _ _ (g.inn hblk.kind s H C cl fp) _ h5) (fun s H C cl fp => sndE _ elt _ _ (g.inn hblk.kind s H C cl fp) _ h6) (ckI_fold h2 X.env)).weak fun D σ H ⟨F, β, Γ, S, s, en, q⟩ => ?_
      refine runI (call_mono T k) s en q (ex_post en) fun F1 β1 S1 H1 J xs G e1 s1 i1 ⟨q0, q1⟩ => ?_
      rw [ownA_ix]
      refine comp_ok (F := F) (β := β) (Q := fun x H' => D.nx (σ.set i (some x)) H') (call_mono T k) e1 s1 (en.ext e1) i1 ⟨q0, cpL_mono (fun Γ S P P' hp q => WT0_mono (call_mono T k) cond Γ S P P' hp q) (fun Γ S P P' hp q => W_mono (call_mono T k) elt Γ S P P' _ _ hp (fun _ _ z => z) q) (fun v S2 z => ?_) xs _ q1⟩ (fun i hi => by have := List.all_eq_true.mp h4 i hi; simpa using this)
      exact fun F' β' H' x e' s' r' => z F' β' H' _ e' s' ((en.ext e').set r')
    · cases h
  | .for_ tg it b, X, Wx, g, st, h => by
    simp only [ckS] at h
    split at h
    · obtain ⟨h, h3⟩ := ba h
      obtain ⟨h1, h2⟩ := ba h
      refine (ps_for g.pass g.calm (sndI _ it X Wx g _ _ h1) (sndG (cA := cA) tg X g.hN g.nd g.loc g.calm _ h2) (sndSs b X Wx g _ h3) (ckI_fold h1 X.env)).weak fun D σ H ⟨F, β, Γ, S, s, en, q⟩ => ?_
      refine runI (call_mono T k) s en q (ex_post en) fun F1 β1 S1 H1 J xs G e1 s1 i1 ⟨q0, q1⟩ => ?_
      refine ⟨fun i m σ H => m = xs.length - i ∧ i ≤ xs.length ∧ ∃ F' β' Γ S', Ext F1 β1 F' β' ∧ Sim X.K cA F' β' S' H ∧ EnvR X.K F' β' Γ σ ∧ G S' ∧
        frL (fun x Γ S => bindT S tg x Γ) (fun Nx Γ S => WSs (orc T k) b { ends X.K cA Wx F β D with nx := Nx, ct := Nx, bk := (ends X.K cA Wx F β D).nx } Γ S) G (ends X.K cA Wx F β D).nx (xs.drop i) Γ S',
        ⟨xs.length, rfl, Nat.zero_le _, F1, β1, Γ, S1, Ext.refl _ _, s1, en.ext e1, q0, q1⟩, ?_⟩
      rintro i m σ H ⟨rfl, hi, F', β', Γ', S', e', s', en', g', c'⟩
      by_cases hlt : i < xs.length
      · refine .inr ⟨i1.go F' β' S' H i e' s' g' hlt, fun σ' H' => ∃ F' β' Γ S', Ext F1 β1 F' β' ∧ Sim X.K cA F' β' S' H' ∧ EnvR X.K F' β' Γ σ' ∧ G S' ∧
          frL (fun x Γ S => bindT S tg x Γ) (fun Nx Γ S => WSs (orc T k) b { ends X.K cA Wx F β D with nx := Nx, ct := Nx, bk := (ends X.K cA Wx F β D).nx } Γ S) G (ends X.K cA Wx F β D).nx (xs.drop (i + 1)) Γ S',
          fun σ' H' z => ⟨xs.length - (i + 1), by omega, rfl, hlt, z⟩, fun x H' hy => ?_⟩
        obtain ⟨F2, v, hv, e2, s2, r2⟩ := i1.yld F' β' S' H i x H' e' s' g' hlt hy
        have hd : xs.drop i = v :: xs.drop (i + 1) := by
          rw [List.drop_eq_getElem_cons hlt]
          rw [List.getElem?_eq_getElem hlt] at hv
          cases hv; rfl
        rw [hd] at c'
        obtain ⟨Γ1, hb, ht⟩ := c'
        refine ⟨F2, β', Γ', S', v, Γ1, s2, en'.ext e2, r2, hb, fun σ2 en2 _ _ => ⟨F2, β', Γ1, S', s2, en2, ?_⟩⟩
        have eF : Ext F β F2 β' := e1.trans (e'.trans e2)
        refine WSs_mono (call_mono T k) b _ _ _ _ ⟨?_, fun v S h => post_ext eF h, postG_ext eF, ?_, fun c => postG_ext eF⟩ ht
        · exact fun Γ3 S3 z F3 β3 H3 σ3 e3 s3 g3 => ⟨F3, β3, Γ3, S3, (e'.trans e2).trans e3, s3, g3, z.1, z.2⟩
        · exact fun Γ3 S3 z F3 β3 H3 σ3 e3 s3 g3 => ⟨F3, β3, Γ3, S3, (e'.trans e2).trans e3, s3, g3, z.1, z.2⟩
      · have ei : i = xs.length := by omega
        subst ei
        refine .inl ⟨i1.stop F' β' S' H e' s' g', ?_⟩
        rw [List.drop_length] at c'
        exact c' F' β' H σ (e1.trans e') s' en'
    · cases h
  | .setFld o f e, X, Wx, g, st, h => by
    simp only [ckS] at h
    split at h
    · obtain ⟨h, h4⟩ := ba h
      obtain ⟨h, h3⟩ := ba h
      obtain ⟨h1, h2⟩ := ba h
      have hx := of_decide_eq_true h1
      subst hx
      refine (ps_fld (sndE _ o X Wx g _ h2) (sndE _ e X Wx g _ h3) (noComp_sw h4 _ _ _)).weak fun D σ H ⟨F, β, Γ, S, s, en, q⟩ => ?_
      refine runE (call_mono T k) s en q (ex_post en) fun F1 β1 S1 H1 v x e1 s1 r1 q1 => ?_
      refine runE (call_mono T k) s1 (en.ext e1) q1 (fun c' S' z => postX_ext e1 c' S' (ex_post en c' S' z)) fun F2 β2 S2 H2 u y e2 s2 r2 ⟨kk, eu, ob, h0, ob', hp, q2⟩ => ?_
      subst eu
      obtain ⟨cc, fs, rfl, rfl, hn, hl⟩ := putFO_ok hp
      obtain ⟨hc, hn⟩ := g.noat _ (noat_mem hn)
      obtain ⟨a, dx, ys, rfl, ha, _, e5, q5⟩ := ins_ok s2 h0 r2
      have eE := e1.trans e2
      exact ⟨a, _, dx, ys, rfl, e5, hc, hn, by rw [← q5.len]; exact hl, q2 F2 β2 _ _ eE (put_ins s2 h0 ha (q5.put (r1.ext e2))) (en.ext eE)⟩
    · cases h
  | .augFld o f op e, X, Wx, g, st, h => by
    simp only [ckS] at h
    split at h
    · obtain ⟨h, h4⟩ := ba h
      obtain ⟨h, h3⟩ := ba h
      obtain ⟨h1, h2⟩ := ba h
      have hx := of_decide_eq_true h1
      subst hx
      by_cases hop : op = .add
      · subst hop
        unfold bopB at h2
        split at h2 <;> first | cases h2 | skip
        all_goals simp only [reduceCtorEq] at *
        refine (ps_fldaug (sndE _ o X Wx g _ h3) (sndE _ e X Wx g _ h4) in_add).weak fun D σ H ⟨F, β, Γ, S, s, en, _, q⟩ => ?_
        refine runE (call_mono T k) s en q (ex_post en) fun F1 β1 S1 H1 u y e1 s1 r1 ⟨kk, eu, ob, h0, w, hw, q1⟩ => ?_
        subst eu
        obtain ⟨cc, fs, rfl, hn, hl⟩ := fldO_ok hw
        obtain ⟨hc, hn'⟩ := g.noat _ (noat_mem hn)
        obtain ⟨a, dx, ys, rfl, ha, _, e5, q5⟩ := ins_ok s1 h0 r1
        obtain ⟨z, hz, rz⟩ := q5.get.1 w hl
        refine ⟨a, _, dx, ys, z, rfl, e5, hc, hn', hz, ?_⟩
        refine runE (call_mono T k) s1 (en.ext e1) q1 (fun c' S' z => postX_ext e1 c' S' (ex_post en c' S' z)) fun F2 β2 S2 H2 v x e2 s2 r2 ⟨n, e6, m, e7, ob2, h8, ec, ob', hp, q2⟩ => ?_
        subst e6 e7
        cases rz; cases r2
        obtain ⟨cc2, fs2, rfl, rfl, hn2, hl2⟩ := putFO_ok hp
        obtain ⟨a2, dx2, ys2, ea, ha2, _, e9, q9⟩ := ins_ok s2 h8 (x := .ref a) ⟨a, rfl, pre_get e2.pre ha⟩
        cases ea
        have eE := e1.trans e2
        have eC : cA cc2 = cA cc := congrArg cA ec
        refine ⟨n, m, rfl, rfl, dx2, ys2, by rw [e9, eC], by rw [← q9.len]; exact hl2, ?_⟩
        have := q2 F2 β2 _ _ eE (put_ins (dx := dx2) s2 h8 ha2 (q9.put (v := .int (n + m)) (y := .int (n + m)) rfl)) (en.ext eE)
        rw [← eC]; exact this
      · exact ⟨fun pins s σ H D I ⟨F, β, Γ, S, si, en, q0, q⟩ => absurd q0 hop⟩
    · cases h
theorem sndSs : ∀ (m : Sms) (X : Cx) (Wx : WX), Gd c cA T k Wx X → ∀ (st : List Stmt), ckSs c m st = true → PSs X st (liftS X.K cA Wx (WSs (orc T k) m))
  | .nil, X, Wx, g, st, h => by
    simp only [ckSs] at h
    split at h
    · exact pss_nil.weak fun D σ H ⟨F, β, Γ, S, s, en, q⟩ => q F β H _ (Ext.refl _ _) s en
    · cases h
  | .cons m ms, X, Wx, g, st, h => by
    simp only [ckSs] at h
    split at h
    · obtain ⟨h1, h2⟩ := ba h
      refine (pss_cons (sndS m X Wx g _ h1) (sndSs ms X Wx g _ h2)).weak fun D σ H ⟨F, β, Γ, S, s, en, q⟩ => ?_
      refine ⟨F, β, Γ, S, s, en, WS_mono (call_mono T k) m { ends X.K cA Wx F β D with nx := fun Γ S => WSs (orc T k) ms (ends X.K cA Wx F β D) Γ S } (ends X.K cA Wx F β { D with nx := liftS X.K cA Wx (WSs (orc T k) ms) D }) _ _ ⟨?_, fun _ _ z => z, fun _ _ z => z, fun _ _ z => z, fun _ _ _ z => z⟩ q⟩
      exact fun Γ1 S1 z F1 β1 H1 σ1 e1 s1 g1 => ⟨F1, β1, Γ1, S1, s1, g1, WSs_mono (call_mono T k) ms _ _ _ _ (ends_ext e1) z⟩
    · cases h
end
end

/-! ### the store cut -/
section
variable {K : PySem.W.Frag} {F F' : Hp} {β : List Addr}
mutual
theorem VR.cl : ∀ (v : Va) (x : V), VR K F β v x → Cl β.length v
  | .non, _, _ => trivial
  | .bl _, _, _ => trivial
  | .int _, _, _ => trivial
  | .str _, _, _ => trivial
  | .scr _, _, _ => trivial
  | .tup xs, _, ⟨_, ys, _, _, r⟩ => VRs.cl xs ys r
  | .lst xs, _, ⟨_, ys, _, _, r⟩ => VRs.cl xs ys r
  | .dct xs, _, ⟨_, ys, _, _, r⟩ => VRk.cl xs ys r
  | .loc n, _, ⟨_, _, r⟩ => lt_of_get r
theorem VRs.cl : ∀ (v : List Va) (x : List V), VRs K F β v x → Cls_ β.length v
  | [], _, _ => trivial
  | v :: vs, _, ⟨y, r, _, q, qs⟩ => ⟨VR.cl v y q, VRs.cl vs r qs⟩
theorem VRk.cl : ∀ (v : List (Key × Va)) (x : List (Key × V)), VRk K F β v x → Clk β.length v
  | [], _, _ => trivial
  | (k, v) :: vs, _, ⟨y, r, _, q, qs⟩ => ⟨VR.cl v y q, VRk.cl vs r qs⟩
end
theorem VRf.cl : ∀ (v : List (Str × Va)) (x : List (Str × V)), VRf K F β v x → Clf β.length v
  | [], _, _ => trivial
  | (k, v) :: vs, _, ⟨y, r, _, q, qs⟩ => ⟨VR.cl v y q, VRf.cl vs r qs⟩
theorem OR.cl {cA : Str → Addr} {H : Hp} : ∀ (o : Ob) (a : Addr), OR K F β cA H o a → ClO β.length o
  | .lst xs, _, ⟨ys, _, r⟩ => VRs.cl xs ys r
  | .dct xs, _, ⟨ys, _, r⟩ => VRk.cl xs ys r
  | .ins C fs, _, ⟨_, ys, _, r⟩ => VRf.cl fs ys r
  | .dead, _, _ => trivial
theorem take_get {n i : Nat} {a : Addr} (h : β[i]? = some a) (hi : i < n) : (β.take n)[i]? = some a := by
  rw [List.getElem?_take, if_pos hi]; exact h
section
variable {n : Nat} (hF : Same F F')
include hF
mutual
theorem VR.cut : ∀ (v : Va) (x : V), VR K F β v x → Cl n v → VR K F' (β.take n) v x
  | .non, _, q, _ => q
  | .bl _, _, q, _ => q
  | .int _, _, q, _ => q
  | .str _, _, q, _ => q
  | .tup xs, _, ⟨a, ys, e, t, r⟩, h => ⟨a, ys, e, SqT.mono hF t, VRs.cut xs ys r h⟩
  | .lst xs, _, ⟨a, ys, e, t, r⟩, h => ⟨a, ys, e, hF _ _ t, VRs.cut xs ys r h⟩
  | .dct xs, _, ⟨a, ys, e, t, r⟩, h => ⟨a, ys, e, hF _ _ t, VRk.cut xs ys r h⟩
  | .scr ns, _, ⟨a, e, t⟩, _ => ⟨a, e, SqL.mono hF t⟩
  | .loc k, _, ⟨a, e, r⟩, h => ⟨a, e, take_get r h⟩
theorem VRs.cut : ∀ (v : List Va) (x : List V), VRs K F β v x → Cls_ n v → VRs K F' (β.take n) v x
  | [], _, q, _ => q
  | v :: vs, _, ⟨y, r, e, q, qs⟩, ⟨h, hs⟩ => ⟨y, r, e, VR.cut v y q h, VRs.cut vs r qs hs⟩
theorem VRk.cut : ∀ (v : List (Key × Va)) (x : List (Key × V)), VRk K F β v x → Clk n v → VRk K F' (β.take n) v x
  | [], _, q, _ => q
  | (k, v) :: vs, _, ⟨y, r, e, q, qs⟩, ⟨h, hs⟩ => ⟨y, r, e, VR.cut v y q h, VRk.cut vs r qs hs⟩
end
theorem VRf.cut : ∀ (v : List (Str × Va)) (x : List (Str × V)), VRf K F β v x → Clf n v → VRf K F' (β.take n) v x
  | [], _, q, _ => q
  | (k, v) :: vs, _, ⟨y, r, e, q, qs⟩, ⟨h, hs⟩ => ⟨y, r, e, VR.cut hF v y q h, VRf.cut vs r qs hs⟩
theorem OR.cut {cA : Str → Addr} {H : Hp} : ∀ (o : Ob) (a : Addr), OR K F β cA H o a → ClO n o → OR K F' (β.take n) cA H o a
  | .lst xs, _, ⟨ys, e, r⟩, h => ⟨ys, e, VRs.cut hF xs ys r h⟩
  | .dct xs, _, ⟨ys, e, r⟩, h => ⟨ys, e, VRk.cut hF xs ys r h⟩
  | .ins C fs, _, ⟨dx, ys, e, r⟩, h => ⟨dx, ys, e, VRf.cut hF fs ys r h⟩
  | .dead, _, _, _ => trivial
end
end
section
variable {K : PySem.W.Frag} {cA : Str → Addr} {F : Hp} {β : List Addr} {S : Sto} {H : Hp} {n : Nat} {F' : Hp}
section
variable (s : Sim K cA F β S H) (hF : Same F F') (hK : ∀ k a, n ≤ k → β[k]? = some a → F' a = H a)
include s hF hK
mutual
theorem Fz.ok : ∀ (v' v : Va) (x : V), Fz S n v v' → VR K F β v x → VR K F' (β.take n) v' x
  | .non, v, x, h, r => by cases (show v = _ from h); exact r
  | .bl _, v, x, h, r => by cases (show v = _ from h); exact r
  | .int _, v, x, h, r => by cases (show v = _ from h); exact r
  | .str _, v, x, h, r => by cases (show v = _ from h); exact r
  | .tup ys, v, x, ⟨xs, e, h⟩, r => by
    subst e
    obtain ⟨a, zs, e, t, q⟩ := r
    exact ⟨a, zs, e, SqT.mono hF t, Fzs.ok ys xs zs h q⟩
  | .lst ys, v, x, ⟨xs, e, h⟩, r => by
    rcases e with e | ⟨k, e, hk, hs⟩
    · subst e
      obtain ⟨a, zs, e, t, q⟩ := r
      exact ⟨a, zs, e, hF _ _ t, Fzs.ok ys xs zs h q⟩
    · subst e
      obtain ⟨a, e, t⟩ := r
      obtain ⟨b, e1, _, zs, e2, q⟩ := s.at hs
      rw [t] at e1
      cases (Option.some.inj e1)
      exact ⟨a, zs, e, (hK k a hk t).trans e2, Fzs.ok ys xs zs h q⟩
  | .dct ys, v, x, ⟨xs, e, h⟩, r => by
    rcases e with e | ⟨k, e, hk, hs⟩
    · subst e
      obtain ⟨a, zs, e, t, q⟩ := r
      exact ⟨a, zs, e, hF _ _ t, Fzk.ok ys xs zs h q⟩
    · subst e
      obtain ⟨a, e, t⟩ := r
      obtain ⟨b, e1, _, zs, e2, q⟩ := s.at hs
      rw [t] at e1
      cases (Option.some.inj e1)
      exact ⟨a, zs, e, (hK k a hk t).trans e2, Fzk.ok ys xs zs h q⟩
  | .loc k, v, x, ⟨e, h⟩, r => by
    subst e
    obtain ⟨a, e, t⟩ := r
    exact ⟨a, e, take_get t h⟩
  | .scr ns, v, x, h, r => by
    cases (show v = _ from h)
    obtain ⟨a, e, t⟩ := r
    exact ⟨a, e, SqL.mono hF t⟩
theorem Fzs.ok : ∀ (v' v : List Va) (x : List V), Fzs S n v v' → VRs K F β v x → VRs K F' (β.take n) v' x
  | [], v, x, h, r => by cases (show v = [] from h); exact r
  | y :: ys, v, x, ⟨z, zs, e, h, hs⟩, r => by
    subst e
    obtain ⟨w, ws, e, q, qs⟩ := r
    exact ⟨w, ws, e, Fz.ok y z w h q, Fzs.ok ys zs ws hs qs⟩
theorem Fzk.ok : ∀ (v' v : List (Key × Va)) (x : List (Key × V)), Fzk S n v v' → VRk K F β v x → VRk K F' (β.take n) v' x
  | [], v, x, h, r => by cases (show v = [] from h); exact r
  | (k, y) :: ys, v, x, ⟨z, zs, e, h, hs⟩, r => by
    subst e
    obtain ⟨w, ws, e, q, qs⟩ := r
    exact ⟨w, ws, e, Fz.ok y z w h q, Fzk.ok ys zs ws hs qs⟩
end
end
end
section
variable {K : PySem.W.Frag} {cA : Str → Addr} {F F' : Hp} {β β' : List Addr} {S S' : Sto} {H H' : Hp}
theorem cut_ok (s : Sim K cA F β S H) (e : Ext F β F' β') (s' : Sim K cA F' β' S' H') (hl : S.length ≤ S'.length) (hc : ∀ (i : Nat) (o : Ob), i < S.length → S'[i]? = some o → S[i]? = some o ∨ ClO S.length o) :
    ∃ F2, Ext F β F2 (β'.take S.length) ∧ Sim K cA F2 (β'.take S.length) (S'.take S.length) H' ∧ Same F' F2 ∧ ∀ k a, S.length ≤ k → β'[k]? = some a → F2 a = H' a := by
  have hn : ∀ a ∈ β', F' a = none := fun a ha => by
    obtain ⟨i, hi⟩ := List.getElem?_of_mem ha
    have hlt : i < S'.length := by rw [← s'.len]; exact lt_of_get hi
    exact (s'.obj i S'[i] a (by simp [hlt]) hi).1
  have sub : Same F' (fun a => if a ∈ β'.take S.length then none else H' a) := fun a o q => by
    have : a ∉ β'.take S.length := fun z => by rw [hn a (List.mem_of_mem_take z)] at q; cases q
    simp only [if_neg this]
    exact s'.sub a o q
  have hβ : β = β'.take S.length := by
    obtain ⟨t, rfl⟩ := e.pre
    rw [← s.len]; simp
  refine ⟨fun a => if a ∈ β'.take S.length then none else H' a, ⟨e.sub.trans sub, ?_⟩, ⟨fun a o q => ?_, by simp [s'.len], fun i j a e1 e2 => ?_, fun i o a e1 e2 => ?_, fun a ha => s'.fresh a (List.mem_of_mem_take ha)⟩, sub, fun k a hk ha => ?_⟩
  · rw [← hβ]; exact List.prefix_refl _
  · by_cases z : a ∈ β'.take S.length
    · simp only [if_pos z] at q; cases q
    · simpa only [if_neg z] using q
  · rw [List.getElem?_take] at e1 e2
    split at e1
    · split at e2
      · exact s'.inj i j a e1 e2
      · cases e2
    · cases e1
  · have hm : a ∈ β'.take S.length := List.mem_of_getElem? e2
    refine ⟨if_pos hm, ?_⟩
    rw [List.getElem?_take] at e1 e2
    split at e1
    · rename_i hi
      rw [if_pos hi] at e2
      obtain ⟨h1, h2⟩ := s'.obj i o a e1 e2
      refine OR.cut sub o a h2 ?_
      rcases hc i o hi e1 with z | z
      · obtain ⟨b, hb, _, h3⟩ := s.at z
        have := OR.cl o b h3
        rwa [s.len] at this
      · exact z
    · cases e1
  · have : a ∉ β'.take S.length := fun z => by
      obtain ⟨i, hi⟩ := List.getElem?_of_mem z
      rw [List.getElem?_take] at hi
      split at hi
      · have := s'.inj i k a hi ha
        omega
      · cases hi
    simp only [if_neg this]
theorem shed_ok (s : Sim K cA F β S H) (e : Ext F β F' β') (s' : Sim K cA F' β' S' H') {v v' : Va} {S'' : Sto} {x : V} (r : VR K F' β' v x) (h : Shed S v S' v' S'') :
    ∃ F2 β2, Ext F β F2 β2 ∧ Sim K cA F2 β2 S'' H' ∧ VR K F2 β2 v' x := by
  rcases h with ⟨rfl, rfl⟩ | ⟨⟨rfl, hl, hc⟩, hz⟩
  · exact ⟨F', β', e, s', r⟩
  · obtain ⟨F2, e2, s2, sub, hk⟩ := cut_ok s e s' hl hc
    exact ⟨F2, _, e2, s2, Fz.ok s' sub hk v' v x hz r⟩
theorem cutx_ok (s : Sim K cA F β S H) (e : Ext F β F' β') (s' : Sim K cA F' β' S' H') {S'' : Sto} (h : Cut S S' S'') : ∃ F2 β2, Ext F β F2 β2 ∧ Sim K cA F2 β2 S'' H' := by
  rcases h with rfl | ⟨rfl, hl, hc⟩
  · exact ⟨F', β', e, s'⟩
  · obtain ⟨F2, e2, s2, sub, hk⟩ := cut_ok s e s' hl hc
    exact ⟨F2, _, e2, s2⟩
end
end AM
end

section
set_option linter.all false
set_option maxRecDepth 100000
set_option maxHeartbeats 4000000
/-! AM, eighth part: every def of the text keeps its promise; the law's end. -/
namespace AM
open PySem L2

/-- a def of the text and its promise's ground -/
def DefOk (K : PySem.W.Frag) (T : Tab) (fs xs : List Str) (f : Str) (a : Addr) (d : Fn) (fd : FuncData) : Prop :=
  ∃ st nm qn, T.fn f = some d ∧ FunD K nm qn (defArgs st) (defBody st) (defScope st) [] [] a fd ∧ Binds K fd d.ps [] ∧ ckF xs fs d st = true
structure Facts (w : World) (K : PySem.W.Frag) (mg : Str → Option Value) (cA : Str → Addr) (T : Tab) (fs xs : List Str) : Prop where
  fn : ∀ f ∈ fs, ∃ a d fd, mg f = some (.ref a) ∧ DefOk K T fs xs f a d fd
  blt : ∀ x ∈ bltNames, mg x = none
  exc : ∀ x ∈ xs, mg x = some (.ref (cA x)) ∧ PySem.W.excIn K (cA x) [.type "ValueError", .type "Exception", .type "BaseException", .type "object"] "ValueError.__new__" = true ∧ PySem.W.keepIn K (.ref (cA x)) = true ∧
    PySem.W.subIn K (.ref (cA x)) (.type "BaseException") = some true ∧ PySem.W.typeIn K (.ref (cA x)) = some (.type "type")
  glo : ∀ p ∈ T.gb, ∃ u y, mg p.1 = some u ∧ RelV y u ∧ ∀ F β, VR K F β p.2 y
  noat : ∀ p ∈ T.na, Cls K (cA p.1) ∧ NoAttr K (cA p.1) p.2
  meth : ∀ p ∈ T.mt, Cls K (cA p.1) ∧ ∃ a d fd, Meth K (cA p.1) p.2.1 a ∧ DefOk K T fs xs p.2.2 a d fd
  init : ∀ p ∈ T.it, mg p.1 = some (.ref (cA p.1)) ∧ PySem.W.keepIn K (.ref (cA p.1)) = true ∧ match p.2 with
    | none => PySem.W.makesIn K (cA p.1) = true ∧ PySem.W.findIn K (.ref (cA p.1)) "__init__" = some (some (.builtin "object.__init__")) ∧ PySem.W.mroIn K (cA p.1) (.type "object") = some true
    | some key => ∃ a d fd, Mk K (cA p.1) a ∧ DefOk K T fs xs key a d fd

  isa : ∀ p ∈ T.ia, mg p.2.1 = some (.ref (cA p.2.1)) ∧ IsaOk K (cA p.1) ∧ PySem.W.kitOne K (.ref (cA p.1)) (.ref (cA p.2.1)) = some p.2.2
  gdc : ∀ p ∈ T.gd, DctOk w K mg p

theorem start_rel {K : PySem.W.Frag} {F : Hp} {β : List Addr} : ∀ {as : List Va} {vs : List V}, VRs K F β as vs → ∀ (n : Nat), EnvR K F β (as.map some ++ List.replicate n none) (vs.map some ++ List.replicate n none)
  | [], _, h, n => by
    cases (show _ = [] from h)
    induction n with
    | zero => trivial
    | succ n ih => exact ⟨trivial, ih⟩
  | a :: as, _, ⟨y, r, e, q, qs⟩, n => by
    subst e
    exact ⟨q, start_rel qs n⟩

section
variable {P : Program} {w : World} {K : PySem.W.Frag} {mg : Str → Option Value} {base : Heap} {cA : Str → Addr} {T : Tab} {fs xs : List Str}
theorem fn_ok (G : Facts w K mg cA T fs xs) : ∀ (k : Nat) (f : Str) (a : Addr) (d : Fn) (fd : FuncData), DefOk K T fs xs f a d fd → FnOk P w K mg base (L2.CX P w) (2 * k) a fd d.ps (spI K cA (orc T k) f)
  | 0, f, a, d, fd, _ => ⟨fun vs H Q E ⟨F, β, S, as, _, _, q⟩ => q.elim, fun A outer s H args us vs Q E _ _ _ _ ⟨F, β, S, as, _, _, q⟩ => q.elim⟩
  | k + 1, f, a, d, fd, ⟨st, nm, qn, h1, h3, h4, h5⟩ => by
    have ih : ∀ f ∈ fs, ∃ d a fd, T f = some d ∧ mg f = some (.ref a) ∧ PySem.W.keepIn K (.ref a) = true ∧ Binds K fd d.ps [] ∧ FnOk P w K mg base (L2.CX P w) (2 * k) a fd d.ps (spI K cA (orc T k) f) := fun f hf => by
      obtain ⟨a, d, fd, h2, D⟩ := G.fn f hf
      have F := fn_ok G k f a d fd D
      obtain ⟨st, nm, qn, h1, h3, h4, h5⟩ := D
      exact ⟨d, a, fd, h1, h2, h3.kp, h4, F⟩
    unfold ckF at h5
    split at h5
    · rename_i _ ar bd dl rt ty sc tp bn ps
      obtain ⟨h5, _⟩ := ba h5
      obtain ⟨h5, _⟩ := ba h5
      obtain ⟨h5, _⟩ := ba h5
      obtain ⟨h5, _⟩ := ba h5
      obtain ⟨h5, _⟩ := ba h5
      obtain ⟨h5, _⟩ := ba h5
      obtain ⟨h5, _⟩ := ba h5
      obtain ⟨h5, c8⟩ := ba h5
      obtain ⟨h5, c7⟩ := ba h5
      obtain ⟨h5, c6⟩ := ba h5
      obtain ⟨h5, c5⟩ := ba h5
      obtain ⟨h5, c4⟩ := ba h5
      obtain ⟨h5, c3⟩ := ba h5
      obtain ⟨c1, c2⟩ := ba h5
      have hN : d.N.Nodup := of_decide_eq_true c5
      show FnOk P w K mg base (L2.CX P w) (2 * k + 1 + 1) a fd d.ps (spI K cA (orc T (k + 1)) f)
      refine h3.ok (CX := L2.CX P w) (N := d.N) ⟨of_decide_eq_true c2, (show sc.isCoroutine = false from by simpa using c3), (show sc.isGenerator = false from by simpa using c4), hN, of_decide_eq_true c6, fun x hx => loc_of (List.all_eq_true.mp c7 x hx), fun y hy => by have := List.all_eq_true.mp c8 y hy; exact of_decide_eq_true this⟩
        (fun vs H Q E ⟨F, β, S, as, s, r, d', hd, hl, _⟩ => ?_) (fun cdv A outer s H vs Q E hr ⟨F, β, S, as, si, r, d', hd, hl, q⟩ => ?_)
      · rw [h1] at hd; cases hd
        rw [← hl, r.len]
      · rw [h1] at hd; cases hd
        have g : Gd ⟨d.N, sc, xs, fs, locB sc⟩ cA T k (fun cls dd _ H => E cls dd H) (cxOf (L2.CX P w) P w K mg base d.N qn sc a cdv A outer s H E) := by
          refine ⟨rfl, hN, rfl, of_decide_eq_true c2, fun x h => ⟨loc_of h, .inl rfl⟩, rfl, hr, takes_of rfl rfl rfl rfl, passes_of rfl, G.blt, ih, fun x hx => ?_, G.glo, G.noat, fun p hp => ?_, fun p hp => ?_, G.isa, G.gdc⟩
          · obtain ⟨e1, e2, e3, e4, e5⟩ := G.exc x hx
            exact ⟨e1, e2, e3, raises_own e4 e5⟩
          · obtain ⟨e1, a, d, fd, e2, D⟩ := G.meth p hp
            have F := fn_ok G k p.2.2 a d fd D
            obtain ⟨st, nm, qn, h1, h3, h4, h5⟩ := D
            exact ⟨e1, d, a, fd, h1, e2, h4, F⟩
          · obtain ⟨e1, e2, e3⟩ := G.init p hp
            refine ⟨e1, e2, ?_⟩
            obtain ⟨c, o⟩ := p
            cases o with
            | none => exact e3
            | some key =>
              obtain ⟨a, d, fd, e4, D⟩ := e3
              have F := fn_ok G k key a d fd D
              obtain ⟨st, nm, qn, h1, h3, h4, h5⟩ := D
              exact ⟨d, a, fd, h1, e4, h4, F⟩
        refine ⟨_, sndSs d.body _ _ g bd c1, F, β, startA d.N as, S, si, ?_, WSs_mono (call_mono T k) d.body _ _ _ _ ⟨?_, ?_, ?_, ?_, ?_⟩ q⟩
        · have := start_rel r (d.N.length - vs.length)
          unfold startA L2.start
          rw [r.len]
          exact this
        · intro Γ S' ⟨v', S'', hs, hp⟩ F' β' H' σ' e' s' g'
          obtain ⟨F2, β2, e2, s2, r2⟩ := shed_ok si e' s' (v := .non) (x := .non) rfl hs
          exact hp F2 β2 H' _ e2 s2 r2
        · intro v S' ⟨v', S'', hs, hp⟩ F' β' H' x e' s' r'
          obtain ⟨F2, β2, e2, s2, r2⟩ := shed_ok si e' s' r' hs
          exact hp F2 β2 H' _ e2 s2 r2
        · exact fun _ _ z => z.elim
        · exact fun _ _ z => z.elim
        · intro x Γ S' ⟨S'', hs, hp⟩ F' β' H' σ' e' s' g'
          obtain ⟨F2, β2, e2, s2⟩ := cutx_ok si e' s' hs
          exact hp F2 β2 H' e2 s2
    · cases h5

/-- a world by one of the model's choices -/
def w1 (b : Bool) (w : World) : World := { w with params := { w.params with followText := fun r => if r == "special-get-raises" then b else w.params.followText r } }
theorem w1_eq (w : World) : w1 (w.params.followText "special-get-raises") w = w := by
  have h : (fun r => if r == "special-get-raises" then w.params.followText "special-get-raises" else w.params.followText r) = w.params.followText := by
    funext r
    by_cases e : r = "special-get-raises"
    · subst e; simp
    · simp [e]
  unfold w1
  rw [h]
/-- an entry of a written dict: a tuple of plain things -/
def entB (K : PySem.W.Frag) (A : Addr) (s : Str) (vs : List He.Dv) : Bool := match PySem.W.nsIn K A s with
  | some (some (.ref a)) => (match K.lookup a with
    | some o => (match o.cls, o.data with
      | .type c, .seq its _ => decide (c = "tuple") && decide (its.size ≤ sizeLine) && He.relAll (vs.map (He.Dv.v K)) its.toList
      | _, _ => false)
    | none => false)
  | _ => false
theorem entB_ok {K : PySem.W.Frag} {A : Addr} {s : Str} {vs : List He.Dv} (h : entB K A s vs = true) : ∃ a, PySem.W.nsIn K A s = some (some (.ref a)) ∧ ∀ H, SqT K H a (vs.map (He.Dv.v K)) := by
  unfold entB at h
  split at h
  · rename_i a e
    refine ⟨a, e, fun H => ?_⟩
    split at h
    · rename_i o ho
      split at h
      · rename_i c its n hc hd
        obtain ⟨h12, h3⟩ := ba h
        obtain ⟨h1, h2⟩ := ba h12
        exact .inr ⟨o, its, n, ho, by rw [hc, of_decide_eq_true h1], hd, of_decide_eq_true h2, He.relAll_ok h3⟩
      · cases h
    · cases h
  · cases h
theorem fnil {α : Type} {Q : α → Prop} : ∀ f ∈ ([] : List α), Q f := fun _ h => by cases h
theorem fcons {α : Type} {Q : α → Prop} {x : α} {l : List α} (h : Q x) (t : ∀ f ∈ l, Q f) : ∀ f ∈ x :: l, Q f := fun f hf => by
  rcases List.mem_cons.mp hf with e | hf
  · rw [e]; exact h
  · exact t f hf
/-- the law's promise from the machine's -/
theorem law_ok (G : Facts w K mg cA T fs xs) (hlaw : ("law" : Str) ∈ fs) {k : Nat} {a : Addr} {H : Hp} {ns : List Int} (hS : SqL K H a (ns.map V.int))
    (h : call T k "law" [.scr ns] [] (fun v _ => v = .bl true) (fun _ _ => False)) : spI K cA (orc T k) "law" [.ref a] H (fun v _ => v = .bl true) (fun _ _ _ => False) := by
  refine ⟨H, [], [], [.scr ns], ⟨Same.refl _, rfl, fun i j a e => by simp at e, fun i o a e => by simp at e, fun a e => by simp at e⟩, ⟨.ref a, [], rfl, ⟨a, rfl, hS⟩, rfl⟩, ?_⟩
  · refine call_mono T k _ _ _ _ _ _ _ (fun v S e F' β' H' x _ _ r => ?_) (fun _ _ z => z.elim) h
    subst e
    exact r
end

/-- a law's end, with the bits of the script's numbers told -/
theorem walk_ofEB {l : PySem.W.OpenLaw} {n k : Nat} {q : Program} {loose : List Str} {XP : (Str → Option Value) → Heap → Prop} {YP : World → Heap → Prop} {d : DefRec} {CX : World → CXT} {x : Str}
    (hn : l.most = some n) (hn2 : n ≤ sizeLine) (hdf : d.params.defaults = []) (hr : Room k callerA)
    (F : ∀ (w : World) (mg : Str → Option Value) (fa : Addr) (h : Heap), YP w h → h.Ns mainGlobals mg → mg d.name = some (.ref fa) →
      ∃ (K : PySem.W.Frag) (fd : FuncData) (sp : Sp), K.In h ∧ (∀ (s : Shared) (u : Value), BindsTo s fd ⟨[u], []⟩ [(x, u)]) ∧
        (∀ (H : Hp) (a : Addr) (ns : List Int), ns.length ≤ n → (∀ z ∈ ns, Builtin.Int.intBits z ≤ 1048576) → Only H → SqL K H a (ns.map V.int) → sp [.ref a] H (fun v _ => v = .bl true) fun _ _ _ => False) ∧
        ∀ base : Heap, K.In base → base.Ns mainGlobals mg → FnOk l.prog w K mg base (CX w) k fa fd [x] sp)
    (hCX : ∀ (w : World) (H : Hp) (s : Shared) (e : Value) (s' : Shared), CX w [] H s (fun _ _ _ => False) e s' → False) :
    PySem.W.WalkO q loose XP YP l.row.toRowW d [] (fun f vs => PySem.call f vs) := by
  refine Att.attach_callB hn hdf fun w s₀ s₁ mg mb fa o pm cd doc a vs ns G Y ho hd hcd hmg hobj hints hlen hbits hg => ?_
  obtain ⟨K, fd, sp, KX, hb, hsp, hF⟩ := F w mg fa _ Y G.T.g hmg
  exact law_call KX G.T.g G.T.b G.T.builtins G.T.nolimit hg hobj hints (Nat.le_trans hlen hn2) hr hF hb (fun H hO hS => hsp H a ns hlen hbits hO hS) fun H e s' => hCX w H s₁ e s'
end AM
end

section
set_option linter.all false
set_option maxRecDepth 100000
set_option maxHeartbeats 4000000
/-! AM, ninth part: rules for use. -/
namespace AM
open PySem L2

theorem fin_keep {S0 S : Sto} {P : PV} {v : Va} (h : P v S) : fin S0 P v S := ⟨v, S, .inl ⟨rfl, rfl⟩, h⟩
theorem finX_keep {S0 S : Sto} {E : PX} {x : Str} (h : E x S) : finX S0 E x S := ⟨S, .inl rfl, h⟩
/-- what is new is taken for good, the store as it was -/
theorem fin_pure {S N : Sto} {P : PV} {v v' : Va} (hz : Fz (S ++ N) S.length v v') (h : P v' S) : fin S P v (S ++ N) :=
  ⟨v', S, .inr ⟨⟨by simp, by simp, fun i o hi e => .inl (by rw [List.getElem?_append_left hi] at e; exact e)⟩, hz⟩, h⟩
theorem fin_pure' {S S1 : Sto} {P : PV} {v v' : Va} (hS : ∃ N, S1 = S ++ N) (hz : Fz S1 S.length v v') (h : P v' S) : fin S P v S1 := by
  obtain ⟨N, rfl⟩ := hS
  exact fin_pure hz h
theorem call_def {T : Tab} {k : Nat} {f : Str} {as : List Va} {S : Sto} {P : PV} {E : PX} {d : Fn} (h : T f = some d) (hl : as.length = d.ps.length)
    (hb : WSs (orc T k) d.body { nx := fun _ S' => fin S P .non S', rt := fin S P, ex := fun x _ S' => finX S E x S' } (startA d.N as) S) : call T (k + 1) f as S P E := ⟨d, h, hl, hb⟩

/-- a while by a word and a measure -/
theorem wh_rule {C : Orc} (hC : OrcMono C) {t : Te} {b : Sms} {D : AEnds} {Γ : Env} {S : Sto} (I : Env → Sto → Prop) (μ : Env → Sto → Nat) (h0 : I Γ S)
    (h : ∀ Γ S, I Γ S → WT C t Γ S (fun k S1 => if k = true then WSs C b { D with nx := fun Γ' S' => I Γ' S' ∧ μ Γ' S' < μ Γ S, ct := fun Γ' S' => I Γ' S' ∧ μ Γ' S' < μ Γ S, bk := D.nx } Γ S1 else D.nx Γ S1) (fun x S1 => D.ex x Γ S1)) :
    WS C (.whil t b) D Γ S := by
  have key : ∀ (m : Nat) (Γ : Env) (S : Sto), I Γ S → μ Γ S < m → whN (fun Γ S P => WT C t Γ S P (fun x S1 => D.ex x Γ S1)) (fun Nx Γ S => WSs C b { D with nx := Nx, ct := Nx, bk := D.nx } Γ S) D.nx m Γ S := by
    intro m
    induction m with
    | zero => intro Γ S _ hm; omega
    | succ m ih =>
      intro Γ S hI hm
      refine WT_mono hC t Γ S _ _ _ _ (fun k S1 h1 => ?_) (fun _ _ z => z) (h Γ S hI)
      cases k with
      | false => exact h1
      | true => exact WSs_mono hC b { D with nx := fun Γ' S' => I Γ' S' ∧ μ Γ' S' < μ Γ S, ct := fun Γ' S' => I Γ' S' ∧ μ Γ' S' < μ Γ S, bk := D.nx } { D with nx := _, ct := _, bk := D.nx } Γ S1 ⟨fun Γ' S' z => ih Γ' S' z.1 (by omega), fun _ _ z => z, fun _ _ z => z, fun Γ' S' z => ih Γ' S' z.1 (by omega), fun _ _ _ z => z⟩ h1
  exact ⟨μ Γ S + 1, key _ Γ S h0 (by omega)⟩
/-- a while whose states are told by a datum, the store as it is -/
theorem wh_ix {C : Orc} (hC : OrcMono C) {α : Type} {t : Te} {b : Sms} {D : AEnds} {S : Sto} (st : α → Env) (P : α → Prop) (μ : α → Nat) (a : α) (h0 : P a)
    (h : ∀ a, P a → WT C t (st a) S (fun k S1 => if k = true then WSs C b { D with nx := fun Γ' S' => ∃ a', Γ' = st a' ∧ S' = S ∧ P a' ∧ μ a' < μ a, ct := fun Γ' S' => ∃ a', Γ' = st a' ∧ S' = S ∧ P a' ∧ μ a' < μ a, bk := D.nx } (st a) S1 else D.nx (st a) S1) (fun x S1 => D.ex x (st a) S1)) :
    WS C (.whil t b) D (st a) S := by
  have key : ∀ (m : Nat) (a : α), P a → μ a < m → whN (fun Γ S P => WT C t Γ S P (fun x S1 => D.ex x Γ S1)) (fun Nx Γ S => WSs C b { D with nx := Nx, ct := Nx, bk := D.nx } Γ S) D.nx m (st a) S := by
    intro m
    induction m with
    | zero => intro a _ hm; omega
    | succ m ih =>
      intro a hI hm
      refine WT_mono hC t _ S _ _ _ _ (fun k S1 h1 => ?_) (fun _ _ z => z) (h a hI)
      cases k with
      | false => exact h1
      | true => exact WSs_mono hC b { D with nx := fun Γ' S' => ∃ a', Γ' = st a' ∧ S' = S ∧ P a' ∧ μ a' < μ a, ct := fun Γ' S' => ∃ a', Γ' = st a' ∧ S' = S ∧ P a' ∧ μ a' < μ a, bk := D.nx } { D with nx := _, ct := _, bk := D.nx } _ S1 ⟨fun Γ' S' ⟨a', e1, e2, z, l⟩ => by rw [e1, e2]; exact ih a' z (by omega), fun _ _ z => z, fun _ _ z => z, fun Γ' S' ⟨a', e1, e2, z, l⟩ => by rw [e1, e2]; exact ih a' z (by omega), fun _ _ _ z => z⟩ h1
  exact ⟨μ a + 1, key _ a h0 (by omega)⟩
theorem st_set0 {o : Option Va} {r : Env} {v : Option Va} : List.set (o :: r) 0 v = v :: r := rfl
theorem st_setS {o : Option Va} {r : Env} {v : Option Va} {i : Nat} : List.set (o :: r) (i + 1) v = o :: List.set r i v := rfl
theorem iteTrue {A B : Prop} : (if (true : Bool) = true then A else B) = A := if_pos rfl
theorem iteFalse {A B : Prop} : (if (false : Bool) = true then A else B) = B := if_neg (by decide)
theorem iteDec {p A B : Prop} [Decidable p] : (if decide p = true then A else B) = (if p then A else B) := by
  by_cases h : p <;> simp [h]
theorem iteNDec {p A B : Prop} [Decidable p] : (if (!decide p) = true then A else B) = (if p then B else A) := by
  by_cases h : p <;> simp [h]
theorem exSome {α : Type} {a : α} {P : α → Prop} : (∃ v, some a = some v ∧ P v) = P a := by
  apply propext
  constructor
  · rintro ⟨v, e, h⟩; cases e; exact h
  · exact fun h => ⟨a, rfl, h⟩
theorem exBl {a : Bool} {P : Bool → Prop} : (∃ b, Va.bl a = Va.bl b ∧ P b) = P a := by
  apply propext
  constructor
  · rintro ⟨v, e, h⟩; cases e; exact h
  · exact fun h => ⟨a, rfl, h⟩
/-! ### the equations, by constructor -/
section
variable {C : Orc} {Γ : Env} {S : Sto} {P : PV} {E : PX} {D : AEnds} {Q : Bool → Sto → Prop} {R : PL}
theorem W_var {i} : W C (.var i) Γ S P E = ∃ v, gt Γ i = some v ∧ P v S := rfl
theorem W_int {i} : W C (.int i) Γ S P E = P (.int i) S := rfl
theorem W_bl {i} : W C (.bl i) Γ S P E = P (.bl i) S := rfl
theorem W_non : W C .non Γ S P E = P .non S := rfl
theorem W_str {i} : W C (.str i) Γ S P E = P (.str i) S := rfl
theorem W_tup {es} : W C (.tup es) Γ S P E = WL C es Γ S (fun vs S1 => vs.length ≤ 1000 ∧ P (.tup vs) S1) E := rfl
theorem W_lst {es} : W C (.lst es) Γ S P E = WL C es Γ S (fun vs S1 => vs.length ≤ 1000 ∧ P (.loc S1.length) (S1 ++ [.lst vs])) E := rfl
theorem W_bin {op a b} : W C (.bin op a b) Γ S P E = W C a Γ S (fun x S1 => W C b Γ S1 (fun y S2 => wBin op x y S2 P) E) E := rfl
theorem W_neg {a} : W C (.neg a) Γ S P E = W C a Γ S (fun x S1 => wNeg x S1 P) E := rfl
theorem W_cmp {op a b} : W C (.cmp op a b) Γ S P E = W C a Γ S (fun x S1 => W C b Γ S1 (fun y S2 => wCmp op x y S2 P) E) E := rfl
theorem W_isN {a} : W C (.isN a) Γ S P E = W C a Γ S (fun x S1 => P (.bl (isNon x)) S1) E := rfl
theorem W_notN {a} : W C (.notN a) Γ S P E = W C a Γ S (fun x S1 => P (.bl (!isNon x)) S1) E := rfl
theorem W_lrev {a} : W C (.lrev a) Γ S P E = W C a Γ S (fun x S1 => ∃ xs, LV S1 x xs ∧ P (.loc S1.length) (S1 ++ [.lst xs.reverse])) E := rfl
theorem W_chain {op op' a b c} : W C (.chain op op' a b c) Γ S P E = W C a Γ S (fun x S1 => W C b Γ S1 (fun y S2 => wCmp op x y S2 (fun z S3 => ∃ k, z = .bl k ∧ if k = true then W C c Γ S3 (fun u S4 => wCmp op' y u S4 P) E else P (.bl false) S3)) E) E := rfl
theorem W_tst {t} : W C (.tst t) Γ S P E = WB C t Γ S P E := rfl
theorem W_ite {t a b} : W C (.ite t a b) Γ S P E = WT C t Γ S (fun k S1 => if k = true then W C a Γ S1 P E else W C b Γ S1 P E) E := rfl
theorem W_call {f es} : W C (.call f es) Γ S P E = WL C es Γ S (fun vs S1 => C.run f vs S1 P E) E := rfl
theorem W_len {a} : W C (.len a) Γ S P E = W C a Γ S (fun x S1 => wLen x S1 P) E := rfl
theorem W_abs {a} : W C (.abs a) Γ S P E = W C a Γ S (fun x S1 => wAbs x S1 P) E := rfl
theorem W_isi {a t} : W C (.isi a t) Γ S P E = W C a Γ S (fun x S1 => ∃ b, tyIs S1 x t = some b ∧ P (.bl b) S1) E := rfl
theorem W_sub {a i} : W C (.sub a i) Γ S P E = W C a Γ S (fun x S1 => W C i Γ S1 (fun y S2 => wSub x y S2 P) E) E := rfl
theorem WT_val {e} : WT C (.val e) Γ S Q E = W C e Γ S (fun v S1 => ∃ b, tru S1 v = some b ∧ Q b S1) E := rfl
theorem WT_not {t} : WT C (.not t) Γ S Q E = WT C t Γ S (fun b S1 => Q (!b) S1) E := rfl
theorem WT_and {ts} : WT C (.and ts) Γ S Q E = WA C ts Γ S Q E := rfl
theorem WT_or {ts} : WT C (.or ts) Γ S Q E = WO C ts Γ S Q E := rfl
theorem WA_one {t} : WA C (.one t) Γ S Q E = WT C t Γ S Q E := rfl
theorem WA_cons {t ts} : WA C (.cons t ts) Γ S Q E = WT C t Γ S (fun b S1 => if b = true then WA C ts Γ S1 Q E else Q false S1) E := rfl
theorem WO_one {t} : WO C (.one t) Γ S Q E = WT C t Γ S Q E := rfl
theorem WO_cons {t ts} : WO C (.cons t ts) Γ S Q E = WT C t Γ S (fun b S1 => if b = true then Q true S1 else WO C ts Γ S1 Q E) E := rfl
theorem WB_val {e} : WB C (.val e) Γ S P E = W C e Γ S P E := rfl
theorem WB_not {t} : WB C (.not t) Γ S P E = WB C t Γ S (fun v S1 => ∃ b, v = .bl b ∧ P (.bl (!b)) S1) E := rfl
theorem WB_and {ts} : WB C (.and ts) Γ S P E = WBA C ts Γ S P E := rfl
theorem WB_or {ts} : WB C (.or ts) Γ S P E = WBO C ts Γ S P E := rfl
theorem WBA_one {t} : WBA C (.one t) Γ S P E = WB C t Γ S P E := rfl
theorem WBA_cons {t ts} : WBA C (.cons t ts) Γ S P E = WB C t Γ S (fun v S1 => ∃ b, v = .bl b ∧ if b = true then WBA C ts Γ S1 P E else P (.bl false) S1) E := rfl
theorem WBO_one {t} : WBO C (.one t) Γ S P E = WB C t Γ S P E := rfl
theorem WBO_cons {t ts} : WBO C (.cons t ts) Γ S P E = WB C t Γ S (fun v S1 => ∃ b, v = .bl b ∧ if b = true then P (.bl true) S1 else WBO C ts Γ S1 P E) E := rfl
theorem WL_nil : WL C .nil Γ S R E = R [] S := rfl
theorem WL_cons {e es} : WL C (.cons e es) Γ S R E = W C e Γ S (fun v S1 => WL C es Γ S1 (fun vs S2 => R (v :: vs) S2) E) E := rfl
theorem WS_set {i e} : WS C (.set i e) D Γ S = W C e Γ S (fun v S1 => D.nx (Γ.set i (some v)) S1) (fun x S1 => D.ex x Γ S1) := rfl
theorem WS_ret {e} : WS C (.ret e) D Γ S = W C e Γ S D.rt (fun x S1 => D.ex x Γ S1) := rfl
theorem WS_retN : WS C .retN D Γ S = D.rt .non S := rfl
theorem WS_pass : WS C .pass D Γ S = D.nx Γ S := rfl
theorem WS_brk : WS C .brk D Γ S = D.bk Γ S := rfl
theorem WS_cont : WS C .cont D Γ S = D.ct Γ S := rfl
theorem WS_drop {e} : WS C (.drop e) D Γ S = W C e Γ S (fun _ S1 => D.nx Γ S1) (fun x S1 => D.ex x Γ S1) := rfl
theorem WS_ite {t a b} : WS C (.ite t a b) D Γ S = WT C t Γ S (fun k S1 => if k = true then WSs C a D Γ S1 else WSs C b D Γ S1) (fun x S1 => D.ex x Γ S1) := rfl
theorem WS_raise {x} : WS C (.raise x) D Γ S = D.ex x Γ S := rfl
theorem WSs_nil : WSs C .nil D Γ S = D.nx Γ S := rfl
theorem WSs_cons {s ss} : WSs C (.cons s ss) D Γ S = WS C s { D with nx := fun Γ S => WSs C ss D Γ S } Γ S := rfl
theorem Ss_set {i e ss} : WSs C (.cons (.set i e) ss) D Γ S = W C e Γ S (fun v S1 => WSs C ss D (Γ.set i (some v)) S1) (fun x S1 => D.ex x Γ S1) := rfl
theorem Ss_ret {e ss} : WSs C (.cons (.ret e) ss) D Γ S = W C e Γ S D.rt (fun x S1 => D.ex x Γ S1) := rfl
theorem Ss_retN {ss} : WSs C (.cons .retN ss) D Γ S = D.rt .non S := rfl
theorem Ss_pass {ss} : WSs C (.cons .pass ss) D Γ S = WSs C ss D Γ S := rfl
theorem Ss_brk {ss} : WSs C (.cons .brk ss) D Γ S = D.bk Γ S := rfl
theorem Ss_cont {ss} : WSs C (.cons .cont ss) D Γ S = D.ct Γ S := rfl
theorem Ss_drop {e ss} : WSs C (.cons (.drop e) ss) D Γ S = W C e Γ S (fun _ S1 => WSs C ss D Γ S1) (fun x S1 => D.ex x Γ S1) := rfl
theorem Ss_raise {x ss} : WSs C (.cons (.raise x) ss) D Γ S = D.ex x Γ S := rfl
/-- a branch that goes on nowhere -/
theorem Ss_ite_ret {t e r b ss} : WSs C (.cons (.ite t (.cons (.ret e) r) b) ss) D Γ S = WT C t Γ S (fun k S1 => if k = true then W C e Γ S1 D.rt (fun x S1 => D.ex x Γ S1) else WSs C b { D with nx := fun Γ S => WSs C ss D Γ S } Γ S1) (fun x S1 => D.ex x Γ S1) := rfl
theorem Ss_ite_retN {t r b ss} : WSs C (.cons (.ite t (.cons .retN r) b) ss) D Γ S = WT C t Γ S (fun k S1 => if k = true then D.rt .non S1 else WSs C b { D with nx := fun Γ S => WSs C ss D Γ S } Γ S1) (fun x S1 => D.ex x Γ S1) := rfl
theorem Ss_ite_raise {t x r b ss} : WSs C (.cons (.ite t (.cons (.raise x) r) b) ss) D Γ S = WT C t Γ S (fun k S1 => if k = true then D.ex x Γ S1 else WSs C b { D with nx := fun Γ S => WSs C ss D Γ S } Γ S1) (fun x S1 => D.ex x Γ S1) := rfl
theorem Ss_ite_cont {t r b ss} : WSs C (.cons (.ite t (.cons .cont r) b) ss) D Γ S = WT C t Γ S (fun k S1 => if k = true then D.ct Γ S1 else WSs C b { D with nx := fun Γ S => WSs C ss D Γ S } Γ S1) (fun x S1 => D.ex x Γ S1) := rfl
theorem Ss_ite_brk {t r b ss} : WSs C (.cons (.ite t (.cons .brk r) b) ss) D Γ S = WT C t Γ S (fun k S1 => if k = true then D.bk Γ S1 else WSs C b { D with nx := fun Γ S => WSs C ss D Γ S } Γ S1) (fun x S1 => D.ex x Γ S1) := rfl
/-- the last statement -/
theorem Ss_ite_last {t a b} : WSs C (.cons (.ite t a b) .nil) D Γ S = WT C t Γ S (fun k S1 => if k = true then WSs C a D Γ S1 else WSs C b D Γ S1) (fun x S1 => D.ex x Γ S1) := rfl
/-- .. any other: both ways -/
theorem Ss_ite {t a b ss} : WSs C (.cons (.ite t a b) ss) D Γ S = WT C t Γ S (fun k S1 => if k = true then WSs C a { D with nx := fun Γ S => WSs C ss D Γ S } Γ S1 else WSs C b { D with nx := fun Γ S => WSs C ss D Γ S } Γ S1) (fun x S1 => D.ex x Γ S1) := rfl
theorem gt_0 {o : Option Va} {r : Env} : gt (o :: r) 0 = o := rfl
theorem gt_S {o : Option Va} {r : Env} {i : Nat} : gt (o :: r) (i + 1) = gt r i := rfl
theorem wAdd_int {i j : Int} : wBin .add (.int i) (.int j) S P = P (.int (i + j)) S := rfl
theorem wSub_int {i j : Int} : wBin .sub (.int i) (.int j) S P = P (.int (i - j)) S := rfl
theorem wMul_rep {k : Nat} {i : Int} : wBin .mul (.loc k) (.int i) S P = ∃ xs, S[k]? = some (.lst xs) ∧ -(2 ^ 62) ≤ i ∧ i < 2 ^ 62 ∧ xs.length * i.toNat ≤ 1000000 ∧ P (.loc S.length) (S ++ [.lst (List.replicate i.toNat xs).flatten]) := rfl
theorem wMul_int {i j : Int} : wBin .mul (.int i) (.int j) S P = (CMulA i j ∧ P (.int (i * j)) S) := rfl
theorem wDiv_int {i j : Int} : wBin .fdiv (.int i) (.int j) S P = (CDivA j ∧ P (.int (i.fdiv j)) S) := rfl
theorem wMod_int {i j : Int} : wBin .mod (.int i) (.int j) S P = (j ≠ 0 ∧ P (.int (i.fmod j)) S) := rfl
theorem wPow_int {i j : Int} : wBin .pow (.int i) (.int j) S P = (CPow i j ∧ P (.int (i ^ j.toNat)) S) := rfl
theorem wAdd_str {i j : Str} : wBin .add (.str i) (.str j) S P = (i.length + j.length ≤ sizeLine ∧ P (.str (i ++ j)) S) := rfl
theorem wNeg_int {i : Int} : wNeg (.int i) S P = P (.int (-i)) S := rfl
theorem wAbs_int {i : Int} : wAbs (.int i) S P = P (.int (if i < 0 then -i else i)) S := rfl
theorem wLt_int {i j : Int} : wCmp .lt (.int i) (.int j) S P = P (.bl (decide (i < j))) S := rfl
theorem wLe_int {i j : Int} : wCmp .le (.int i) (.int j) S P = P (.bl (decide (i ≤ j))) S := rfl
theorem wGt_int {i j : Int} : wCmp .gt (.int i) (.int j) S P = P (.bl (decide (j < i))) S := rfl
theorem wGe_int {i j : Int} : wCmp .ge (.int i) (.int j) S P = P (.bl (decide (j ≤ i))) S := rfl
theorem noDEq {x y : Va} (hs : AM.scal x y = true) (h : DEq S x y) : False := by
  obtain ⟨ks, ls, h1, _⟩ := h
  rcases h1 with rfl | ⟨k, rfl, _⟩ <;> cases y <;> cases hs
theorem eq_data {x y : Va} (hs : AM.scal x y = true) (he : ∀ d e, DV S x d → DV S y e → PyData.eqv d e = eqF x y) : wCmp .eq x y S P = P (.bl (eqF x y)) S := by
  apply propext
  simp only [wCmp]
  constructor
  · rintro ((⟨_, h⟩ | ⟨h1, _⟩) | ⟨d, e, h1, h2, _, _, h⟩)
    · exact h
    · exact (noDEq hs h1).elim
    · rwa [he d e h1 h2] at h
  · exact fun h => .inl (.inl ⟨hs, h⟩)
theorem ne_data {x y : Va} (hs : AM.scal x y = true) (he : ∀ d e, DV S x d → DV S y e → PyData.eqv d e = eqF x y) : wCmp .ne x y S P = P (.bl (!eqF x y)) S := by
  apply propext
  simp only [wCmp]
  constructor
  · rintro ((⟨_, h⟩ | ⟨h1, _⟩) | ⟨d, e, h1, h2, _, _, h⟩)
    · exact h
    · exact (noDEq hs h1).elim
    · rwa [he d e h1 h2] at h
  · exact fun h => .inl (.inl ⟨hs, h⟩)
theorem wEq_int {i j : Int} : wCmp .eq (.int i) (.int j) S P = P (.bl (decide (i = j))) S := eq_data rfl fun d e h1 h2 => by
  cases h1; cases h2; simp [PyData.eqv, eqF, Bool.beq_eq_decide_eq]
theorem wNe_int {i j : Int} : wCmp .ne (.int i) (.int j) S P = P (.bl (!decide (i = j))) S := ne_data rfl fun d e h1 h2 => by
  cases h1; cases h2; simp [PyData.eqv, eqF, Bool.beq_eq_decide_eq]
theorem wEq_bl {i j : Bool} : wCmp .eq (.bl i) (.bl j) S P = P (.bl (decide (i = j))) S := eq_data rfl fun d e h1 h2 => by
  cases h1; cases h2; simp [PyData.eqv, eqF, Bool.beq_eq_decide_eq]
theorem wNe_bl {i j : Bool} : wCmp .ne (.bl i) (.bl j) S P = P (.bl (!decide (i = j))) S := ne_data rfl fun d e h1 h2 => by
  cases h1; cases h2; simp [PyData.eqv, eqF, Bool.beq_eq_decide_eq]
theorem wEq_str {i j : Str} : wCmp .eq (.str i) (.str j) S P = P (.bl (decide (i = j))) S := eq_data rfl fun d e h1 h2 => by
  cases h1; cases h2; simp [PyData.eqv, eqF, Bool.beq_eq_decide_eq]
theorem wNe_str {i j : Str} : wCmp .ne (.str i) (.str j) S P = P (.bl (!decide (i = j))) S := ne_data rfl fun d e h1 h2 => by
  cases h1; cases h2; simp [PyData.eqv, eqF, Bool.beq_eq_decide_eq]
theorem wLen_tup {xs : List Va} : wLen (.tup xs) S P = P (.int xs.length) S := rfl
theorem wLen_lst {xs : List Va} : wLen (.lst xs) S P = P (.int xs.length) S := rfl
theorem tru_bl {b : Bool} : tru S (.bl b) = some b := rfl
theorem tru_int {i : Int} : tru S (.int i) = some (i != 0) := rfl
theorem ty_int_int {i : Int} : tyIs S (.int i) .int = some true := rfl
theorem ty_int_bool {i : Int} : tyIs S (.int i) .bool = some false := rfl
theorem ty_int_str {i : Int} : tyIs S (.int i) .str = some false := rfl
theorem ty_int_tuple {i : Int} : tyIs S (.int i) .tuple = some false := rfl
theorem ty_int_list {i : Int} : tyIs S (.int i) .list = some false := rfl
theorem ty_int_dict {i : Int} : tyIs S (.int i) .dict = some false := rfl
theorem ty_bl_int {i : Bool} : tyIs S (.bl i) .int = some true := rfl
theorem ty_bl_bool {i : Bool} : tyIs S (.bl i) .bool = some true := rfl
theorem ty_bl_str {i : Bool} : tyIs S (.bl i) .str = some false := rfl
theorem ty_bl_tuple {i : Bool} : tyIs S (.bl i) .tuple = some false := rfl
theorem ty_bl_list {i : Bool} : tyIs S (.bl i) .list = some false := rfl
theorem ty_bl_dict {i : Bool} : tyIs S (.bl i) .dict = some false := rfl
theorem ty_str_int {i : Str} : tyIs S (.str i) .int = some false := rfl
theorem ty_str_bool {i : Str} : tyIs S (.str i) .bool = some false := rfl
theorem ty_str_str {i : Str} : tyIs S (.str i) .str = some true := rfl
theorem ty_str_tuple {i : Str} : tyIs S (.str i) .tuple = some false := rfl
theorem ty_str_list {i : Str} : tyIs S (.str i) .list = some false := rfl
theorem ty_str_dict {i : Str} : tyIs S (.str i) .dict = some false := rfl
theorem ty_tup_int {i : List Va} : tyIs S (.tup i) .int = some false := rfl
theorem ty_tup_bool {i : List Va} : tyIs S (.tup i) .bool = some false := rfl
theorem ty_tup_str {i : List Va} : tyIs S (.tup i) .str = some false := rfl
theorem ty_tup_tuple {i : List Va} : tyIs S (.tup i) .tuple = some true := rfl
theorem ty_tup_list {i : List Va} : tyIs S (.tup i) .list = some false := rfl
theorem ty_tup_dict {i : List Va} : tyIs S (.tup i) .dict = some false := rfl
theorem ty_lst_int {i : List Va} : tyIs S (.lst i) .int = some false := rfl
theorem ty_lst_bool {i : List Va} : tyIs S (.lst i) .bool = some false := rfl
theorem ty_lst_str {i : List Va} : tyIs S (.lst i) .str = some false := rfl
theorem ty_lst_tuple {i : List Va} : tyIs S (.lst i) .tuple = some false := rfl
theorem ty_lst_list {i : List Va} : tyIs S (.lst i) .list = some true := rfl
theorem ty_lst_dict {i : List Va} : tyIs S (.lst i) .dict = some false := rfl
theorem ty_dct_int {i : List (L2.Key × Va)} : tyIs S (.dct i) .int = some false := rfl
theorem ty_dct_bool {i : List (L2.Key × Va)} : tyIs S (.dct i) .bool = some false := rfl
theorem ty_dct_str {i : List (L2.Key × Va)} : tyIs S (.dct i) .str = some false := rfl
theorem ty_dct_tuple {i : List (L2.Key × Va)} : tyIs S (.dct i) .tuple = some false := rfl
theorem ty_dct_list {i : List (L2.Key × Va)} : tyIs S (.dct i) .list = some false := rfl
theorem ty_dct_dict {i : List (L2.Key × Va)} : tyIs S (.dct i) .dict = some true := rfl
theorem ty_non {t : Ty} : tyIs S .non t = some false := rfl
theorem wSub_tup {xs : List Va} {i : Int} : wSub (.tup xs) (.int i) S P = ∃ v, L2.atI xs i = some v ∧ P v S := rfl
theorem wSub_lst {xs : List Va} {i : Int} : wSub (.lst xs) (.int i) S P = ∃ v, L2.atI xs i = some v ∧ P v S := rfl
theorem sub_tup0 {x0 : Va} {xs : List Va} : wSub (.tup (x0 :: xs)) (.int 0) S P = P x0 S := by
  have h : L2.atI (x0 :: xs) 0 = some x0 := L2.atI_nat (j := 0) rfl
  rw [wSub_tup, h, exSome]
theorem sub_tup1 {x0 x1 : Va} {xs : List Va} : wSub (.tup (x0 :: x1 :: xs)) (.int 1) S P = P x1 S := by
  have h : L2.atI (x0 :: x1 :: xs) 1 = some x1 := L2.atI_nat (j := 1) rfl
  rw [wSub_tup, h, exSome]
theorem sub_tup2 {x0 x1 x2 : Va} {xs : List Va} : wSub (.tup (x0 :: x1 :: x2 :: xs)) (.int 2) S P = P x2 S := by
  have h : L2.atI (x0 :: x1 :: x2 :: xs) 2 = some x2 := L2.atI_nat (j := 2) rfl
  rw [wSub_tup, h, exSome]
theorem sub_tup3 {x0 x1 x2 x3 : Va} {xs : List Va} : wSub (.tup (x0 :: x1 :: x2 :: x3 :: xs)) (.int 3) S P = P x3 S := by
  have h : L2.atI (x0 :: x1 :: x2 :: x3 :: xs) 3 = some x3 := L2.atI_nat (j := 3) rfl
  rw [wSub_tup, h, exSome]
theorem sub_tup4 {x0 x1 x2 x3 x4 : Va} {xs : List Va} : wSub (.tup (x0 :: x1 :: x2 :: x3 :: x4 :: xs)) (.int 4) S P = P x4 S := by
  have h : L2.atI (x0 :: x1 :: x2 :: x3 :: x4 :: xs) 4 = some x4 := L2.atI_nat (j := 4) rfl
  rw [wSub_tup, h, exSome]
theorem sub_tup5 {x0 x1 x2 x3 x4 x5 : Va} {xs : List Va} : wSub (.tup (x0 :: x1 :: x2 :: x3 :: x4 :: x5 :: xs)) (.int 5) S P = P x5 S := by
  have h : L2.atI (x0 :: x1 :: x2 :: x3 :: x4 :: x5 :: xs) 5 = some x5 := L2.atI_nat (j := 5) rfl
  rw [wSub_tup, h, exSome]
theorem sub_lst0 {x0 : Va} {xs : List Va} : wSub (.lst (x0 :: xs)) (.int 0) S P = P x0 S := by
  have h : L2.atI (x0 :: xs) 0 = some x0 := L2.atI_nat (j := 0) rfl
  rw [wSub_lst, h, exSome]
theorem sub_lst1 {x0 x1 : Va} {xs : List Va} : wSub (.lst (x0 :: x1 :: xs)) (.int 1) S P = P x1 S := by
  have h : L2.atI (x0 :: x1 :: xs) 1 = some x1 := L2.atI_nat (j := 1) rfl
  rw [wSub_lst, h, exSome]
theorem sub_lst2 {x0 x1 x2 : Va} {xs : List Va} : wSub (.lst (x0 :: x1 :: x2 :: xs)) (.int 2) S P = P x2 S := by
  have h : L2.atI (x0 :: x1 :: x2 :: xs) 2 = some x2 := L2.atI_nat (j := 2) rfl
  rw [wSub_lst, h, exSome]
theorem sub_lst3 {x0 x1 x2 x3 : Va} {xs : List Va} : wSub (.lst (x0 :: x1 :: x2 :: x3 :: xs)) (.int 3) S P = P x3 S := by
  have h : L2.atI (x0 :: x1 :: x2 :: x3 :: xs) 3 = some x3 := L2.atI_nat (j := 3) rfl
  rw [wSub_lst, h, exSome]
theorem sub_lst4 {x0 x1 x2 x3 x4 : Va} {xs : List Va} : wSub (.lst (x0 :: x1 :: x2 :: x3 :: x4 :: xs)) (.int 4) S P = P x4 S := by
  have h : L2.atI (x0 :: x1 :: x2 :: x3 :: x4 :: xs) 4 = some x4 := L2.atI_nat (j := 4) rfl
  rw [wSub_lst, h, exSome]
theorem sub_lst5 {x0 x1 x2 x3 x4 x5 : Va} {xs : List Va} : wSub (.lst (x0 :: x1 :: x2 :: x3 :: x4 :: x5 :: xs)) (.int 5) S P = P x5 S := by
  have h : L2.atI (x0 :: x1 :: x2 :: x3 :: x4 :: x5 :: xs) 5 = some x5 := L2.atI_nat (j := 5) rfl
  rw [wSub_lst, h, exSome]
end
/-- two statements, by what holds between -/
theorem seq_cut {C : Orc} (hC : OrcMono C) {s : Sm} {ss : Sms} {D : AEnds} {Γ : Env} {S : Sto} (M : Env → Sto → Prop) (h1 : WS C s { D with nx := M } Γ S) (h2 : ∀ Γ' S', M Γ' S' → WSs C ss D Γ' S') : WSs C (.cons s ss) D Γ S :=
  WS_mono hC s { D with nx := M } { D with nx := fun Γ S => WSs C ss D Γ S } Γ S ⟨h2, fun _ _ z => z, fun _ _ z => z, fun _ _ z => z, fun _ _ _ z => z⟩ h1
/-- .. where the environment and the store behind the first are known -/
theorem seq_to {C : Orc} (hC : OrcMono C) {s : Sm} {ss : Sms} {D : AEnds} {Γ : Env} {S : Sto} (Γ1 : Env) (S1 : Sto) (h1 : WS C s { D with nx := fun Γ' S' => Γ' = Γ1 ∧ S' = S1 } Γ S) (h2 : WSs C ss D Γ1 S1) : WSs C (.cons s ss) D Γ S :=
  seq_cut hC _ h1 (fun Γ' S' ⟨e1, e2⟩ => by rw [e1, e2]; exact h2)
theorem startA_eq {N : List Str} {as : List Va} : startA N as = as.map some ++ List.replicate (N.length - as.length) none := rfl
/-! ### lists, walks -/
/-- the turns of a for -/
def forB (C : Orc) (tg : Tg) (b : Sms) (D : AEnds) (G : Sto → Prop) (xs : List Va) (Γ : Env) (S : Sto) : Prop :=
  frL (fun x Γ S => bindT S tg x Γ) (fun Nx Γ S => WSs C b { D with nx := Nx, ct := Nx, bk := D.nx } Γ S) G D.nx xs Γ S
/-- the turns of a comprehension -/
def cpB (C : Orc) (own : List Nat) (elt : Ex) (tg : Tg) (cond : Tes0) (G : Sto → Prop) (d : Nat) (P : PV) (xs : List Va) (Γ : Env) (S : Sto) : Prop :=
  cpL (fun x S => bindT S tg x (wipeA Γ own)) (fun Γ S Q => WT0 C cond Γ S Q) (fun Γ S Q => W C elt Γ S Q (fun _ _ => False)) G d P xs S
section
variable {C : Orc} {Γ : Env} {S : Sto} {P : PV} {E : PX} {D : AEnds} {Q : Bool → Sto → Prop} {R : PL} {I : PI_} {O : Option Int → Sto → Prop}
theorem W_slice {a lo hi} : W C (.slice a lo hi) Γ S P E = W C a Γ S (fun x S1 => WOe C lo Γ S1 (fun l S2 => WOe C hi Γ S2 (fun h S3 => wSlice x l h S3 P) E) E) E := rfl
theorem W_blt {f es} : W C (.blt f es) Γ S P E = WL C es Γ S (fun vs S1 => wBlt f vs S1 P) E := rfl
theorem W_mth {m o es} : W C (.mth m o es) Γ S P E = W C o Γ S (fun x S1 => mOk S1 m x ∧ WL C es Γ S1 (fun vs S2 => wMth m x vs S2 P) E) E := rfl
theorem WOe_none : WOe C .none Γ S O E = O none S := rfl
theorem WOe_some {e} : WOe C (.some e) Γ S O E = W C e Γ S (fun v S1 => ∃ i, v = .int i ∧ O (some i) S1) E := rfl
theorem WI_seq {e} : WI C (.seq e) Γ S I E = W C e Γ S (fun v S1 => wSeq v S1 I) E := rfl
theorem WI_range1 {a} : WI C (.range1 a) Γ S I E = W C a Γ S (fun v S1 => ∃ i : Int, v = .int i ∧ -(2 ^ 62) ≤ i ∧ i < 2 ^ 62 ∧ I (rangeV 0 i.toNat) (fun _ => True) S1) E := rfl
theorem WI_range2 {a b} : WI C (.range2 a b) Γ S I E = W C a Γ S (fun v S1 => W C b Γ S1 (fun u S2 => ∃ i : Int, v = .int i ∧ ∃ j : Int, u = .int j ∧ (-(2 ^ 62) ≤ i ∧ i < 2 ^ 62 ∧ -(2 ^ 62) ≤ j ∧ j < 2 ^ 62) ∧ I (rangeV i (j - i).toNat) (fun _ => True) S2) E) E := rfl
theorem WI_enum {e} : WI C (.enum e) Γ S I E = W C e Γ S (fun v S1 => wLst v S1 fun xs G S2 => I (enumV 0 xs) G S2) E := rfl
theorem WI_zip {a b} : WI C (.zip a b) Γ S I E = W C a Γ S (fun v S1 => W C b Γ S1 (fun u S2 => wLst v S2 fun xs G S3 => wLst u S3 fun ys G' S4 => I (zipV xs ys) (fun S' => G S' ∧ G' S') S4) E) E := rfl
theorem WI_rev {e} : WI C (.rev e) Γ S I E = W C e Γ S (fun v S1 => wLst v S1 fun xs G S2 => I xs.reverse G S2) E := rfl
theorem WT0_none : WT0 C .none Γ S Q = Q true S := rfl
theorem WT0_some {t} : WT0 C (.some t) Γ S Q = WT C t Γ S Q (fun _ _ => False) := rfl
theorem Ss_asg {tg e ss} : WSs C (.cons (.asg tg e) ss) D Γ S = W C e Γ S (fun v S1 => ∃ Γ1, bindT S1 tg v Γ = some Γ1 ∧ WSs C ss D Γ1 S1) (fun x S1 => D.ex x Γ S1) := rfl
theorem Ss_setSub {o i e ss} : WSs C (.cons (.setSub o i e) ss) D Γ S = W C e Γ S (fun v S1 => W C o Γ S1 (fun x S2 => W C i Γ S2 (fun y S3 => ∃ k, x = .loc k ∧ ∃ ob, S3[k]? = some ob ∧ ∃ ob', putO ob y v = some ob' ∧ WSs C ss D Γ (S3.set k ob')) (fun x S1 => D.ex x Γ S1)) (fun x S1 => D.ex x Γ S1)) (fun x S1 => D.ex x Γ S1) := rfl
theorem Ss_aug {i op e ss} : WSs C (.cons (.aug i op e) ss) D Γ S = ∃ x, gt Γ i = some x ∧ W C e Γ S (fun y S1 => ∃ n : Int, x = .int n ∧ ∃ m : Int, y = .int m ∧ ∃ r : Int, augI op n m = some r ∧ WSs C ss D (Γ.set i (some (.int r))) S1) (fun x S1 => D.ex x Γ S1) := rfl
theorem WS_asg {tg e} : WS C (.asg tg e) D Γ S = W C e Γ S (fun v S1 => ∃ Γ1, bindT S1 tg v Γ = some Γ1 ∧ D.nx Γ1 S1) (fun x S1 => D.ex x Γ S1) := rfl
theorem WS_for {tg it b} : WS C (.for_ tg it b) D Γ S = WI C it Γ S (fun xs G S1 => G S1 ∧ forB C tg b D G xs Γ S1) (fun x S1 => D.ex x Γ S1) := rfl
theorem W_comp {own elt tg it cond} : W C (.comp own elt tg it cond) Γ S P E = WI C it Γ S (fun xs G S1 => G (S1 ++ [.lst []]) ∧ cpB C own elt tg cond G S1.length P xs Γ (S1 ++ [.lst []])) E := rfl
theorem Ss_setC {i own elt tg it cond ss} : WSs C (.cons (.setC i own elt tg it cond) ss) D Γ S = WI C it Γ S (fun xs G S1 => G (S1 ++ [.lst []]) ∧ cpB C own elt tg cond G S1.length (fun v S2 => WSs C ss D (Γ.set i (some v)) S2) xs Γ (S1 ++ [.lst []])) (fun x S1 => D.ex x Γ S1) := rfl
theorem WS_setC {i own elt tg it cond} : WS C (.setC i own elt tg it cond) D Γ S = WI C it Γ S (fun xs G S1 => G (S1 ++ [.lst []]) ∧ cpB C own elt tg cond G S1.length (fun v S2 => D.nx (Γ.set i (some v)) S2) xs Γ (S1 ++ [.lst []])) (fun x S1 => D.ex x Γ S1) := rfl
theorem WS_aug {i op e} : WS C (.aug i op e) D Γ S = ∃ x, gt Γ i = some x ∧ W C e Γ S (fun y S1 => ∃ n : Int, x = .int n ∧ ∃ m : Int, y = .int m ∧ ∃ r : Int, augI op n m = some r ∧ D.nx (Γ.set i (some (.int r))) S1) (fun x S1 => D.ex x Γ S1) := rfl
theorem bT_name {i v} : bindT S (.name i) v Γ = some (Γ.set i (some v)) := rfl
theorem bT_tup {ts xs} : bindT S (.tup ts) (.tup xs) Γ = bindTs S ts xs Γ := rfl
theorem bT_lst {ts xs} : bindT S (.tup ts) (.lst xs) Γ = bindTs S ts xs Γ := rfl
theorem bT_loc {ts k xs} (h : S[k]? = some (.lst xs)) : bindT S (.tup ts) (.loc k) Γ = bindTs S ts xs Γ := by
  simp only [bindT, partsOf, h]
theorem bTs_nil : bindTs S .nil [] Γ = some Γ := rfl
theorem bTs_cons {t ts x xs} {Γ1 : Env} (h : bindT S t x Γ = some Γ1) : bindTs S (.cons t ts) (x :: xs) Γ = bindTs S ts xs Γ1 := by
  simp only [bindTs, h]
theorem bTs_name {i ts x xs} : bindTs S (.cons (.name i) ts) (x :: xs) Γ = bindTs S ts xs (Γ.set i (some x)) := rfl
theorem seq_lst {xs} : wSeq (.lst xs) S I = I xs (fun _ => True) S := rfl
theorem seq_tup {xs} : wSeq (.tup xs) S I = I xs (fun _ => True) S := rfl
theorem seq_scr {ns} : wSeq (.scr ns) S I = I (ns.map Va.int) (fun _ => True) S := rfl
theorem seq_str {z} : wSeq (.str z) S I = I (z.cps.toList.map fun c => Va.str ⟨#[c]⟩) (fun _ => True) S := rfl
theorem seq_loc {k} : wSeq (.loc k) S I = ∃ xs, S[k]? = some (.lst xs) ∧ I xs (fun S' => S'[k]? = some (.lst xs)) S := rfl
theorem lst_lst {xs} : wLst (.lst xs) S I = I xs (fun _ => True) S := rfl
theorem lst_scr {ns} : wLst (.scr ns) S I = I (ns.map Va.int) (fun _ => True) S := rfl
theorem lst_loc {k} : wLst (.loc k) S I = ∃ xs, S[k]? = some (.lst xs) ∧ I xs (fun S' => S'[k]? = some (.lst xs)) S := rfl
theorem exInt {a : Int} {P : Int → Prop} : (∃ b, Va.int a = Va.int b ∧ P b) = P a := by
  apply propext
  constructor
  · rintro ⟨v, e, h⟩; cases e; exact h
  · exact fun h => ⟨a, rfl, h⟩
theorem exLoc {a : Nat} {P : Nat → Prop} : (∃ b, Va.loc a = Va.loc b ∧ P b) = P a := by
  apply propext
  constructor
  · rintro ⟨v, e, h⟩; cases e; exact h
  · exact fun h => ⟨a, rfl, h⟩
theorem exLst {a : List Va} {P : List Va → Prop} : (∃ b, some (Ob.lst a) = some (Ob.lst b) ∧ P b) = P a := by
  apply propext
  constructor
  · rintro ⟨v, e, h⟩; cases e; exact h
  · exact fun h => ⟨a, rfl, h⟩
theorem exLst1 {a : List Va} : (∃ b, some (Ob.lst a) = some (Ob.lst b)) = True := by
  apply propext
  exact ⟨fun _ => trivial, fun _ => ⟨a, rfl⟩⟩
theorem exLV_lst {a : List Va} {P : List Va → Prop} : (∃ b, LV S (.lst a) b ∧ P b) = P a := by
  apply propext
  constructor
  · rintro ⟨v, e | ⟨k, e, _⟩, h⟩
    · cases e; exact h
    · cases e
  · exact fun h => ⟨a, .inl rfl, h⟩
theorem exLV_loc {k : Nat} {P : List Va → Prop} : (∃ b, LV S (.loc k) b ∧ P b) = ∃ b, S[k]? = some (.lst b) ∧ P b := by
  apply propext
  constructor
  · rintro ⟨v, e | ⟨k', e, h'⟩, h⟩
    · cases e
    · cases e; exact ⟨v, h', h⟩
  · exact fun ⟨v, h', h⟩ => ⟨v, .inr ⟨k, rfl, h'⟩, h⟩
theorem mOk_loc {m k} (h : m ≠ .join) : mOk S m (.loc k) = ∃ b, S[k]? = some (.lst b) := by
  apply propext
  cases m <;> first | exact absurd rfl h | exact ⟨fun ⟨v, q⟩ => by rcases q with e | ⟨k', e, h'⟩ <;> cases e; exact ⟨v, h'⟩, fun ⟨v, q⟩ => ⟨v, .inr ⟨k, rfl, q⟩⟩⟩
theorem mOk_app {k} : mOk S .append (.loc k) = ∃ b, S[k]? = some (.lst b) := mOk_loc (by decide)
theorem mOk_pop {k} : mOk S .pop (.loc k) = ∃ b, S[k]? = some (.lst b) := mOk_loc (by decide)
theorem mOk_ext {k} : mOk S .extend (.loc k) = ∃ b, S[k]? = some (.lst b) := mOk_loc (by decide)
theorem mOk_ins {k} : mOk S .insert (.loc k) = ∃ b, S[k]? = some (.lst b) := mOk_loc (by decide)
theorem mOk_ind {k} : mOk S .index (.loc k) = ∃ b, S[k]? = some (.lst b) := mOk_loc (by decide)
theorem mOk_join {a} : mOk S .join (.str a) = True := by
  apply propext
  exact ⟨fun _ => trivial, fun _ => ⟨a, rfl⟩⟩
theorem mOk_indl {xs} : mOk S .index (.lst xs) = True := by
  apply propext
  exact ⟨fun _ => trivial, fun _ => ⟨xs, .inl rfl⟩⟩
theorem m_append {k y} : wMth .append (.loc k) [y] S P = ∃ xs, S[k]? = some (.lst xs) ∧ xs.length < 1000000 ∧ P .non (S.set k (.lst (xs ++ [y]))) := rfl
theorem m_pop {k} : wMth .pop (.loc k) [] S P = ∃ xs, S[k]? = some (.lst xs) ∧ ∃ y, xs[xs.length - 1]? = some y ∧ P y (S.set k (.lst xs.dropLast)) := rfl
theorem m_extend {k z} : wMth .extend (.loc k) [z] S P = ∃ xs, S[k]? = some (.lst xs) ∧ ∃ zs, LV S z zs ∧ xs.length + zs.length ≤ 1000000 ∧ P .non (S.set k (.lst (xs ++ zs))) := rfl
theorem m_insert {k i y} : wMth .insert (.loc k) [.int i, y] S P = ∃ xs, S[k]? = some (.lst xs) ∧ xs.length < 1000000 ∧ 0 ≤ i ∧ i < 2 ^ 63 ∧ P .non (S.set k (.lst (xs.take i.toNat ++ [y] ++ xs.drop i.toNat))) := rfl
theorem m_join {a z} : wMth .join (.str a) [z] S P = ∃ ys : List Str, (z = .tup (ys.map Va.str) ∨ LV S z (ys.map Va.str)) ∧ (ys.map PySem.Str.length).sum + ys.length * a.length ≤ 16777216 ∧ P (.str (Txt.join a ys)) S := rfl
theorem b_listL {xs} : wBlt .list [.lst xs] S P = P (.loc S.length) (S ++ [.lst xs]) := rfl
theorem b_listT {xs} : wBlt .list [.tup xs] S P = P (.loc S.length) (S ++ [.lst xs]) := rfl
theorem b_listS {ns} : wBlt .list [.scr ns] S P = P (.loc S.length) (S ++ [.lst (ns.map Va.int)]) := rfl
theorem b_listK {k} : wBlt .list [.loc k] S P = ∃ o, S[k]? = some o ∧ listO o S P := rfl
theorem b_tupL {xs} : wBlt .tuple [.lst xs] S P = P (.tup xs) S := rfl
theorem b_tupT {xs} : wBlt .tuple [.tup xs] S P = P (.tup xs) S := rfl
theorem b_tupK {k} : wBlt .tuple [.loc k] S P = ∃ xs, S[k]? = some (.lst xs) ∧ P (.tup xs) S := rfl
theorem b_max2 {i j} : wBlt .max2 [.int i, .int j] S P = P (.int (if j > i then j else i)) S := rfl
theorem b_min2 {i j} : wBlt .min2 [.int i, .int j] S P = P (.int (if j < i then j else i)) S := rfl
theorem b_ord {x} : wBlt .ord [.str x] S P = (x.length = 1 ∧ P (.int (x.cps.getD 0 0 : Nat)) S) := rfl
theorem b_str {i} : wBlt .str [.int i] S P = (i.natAbs.log2 < 1920 ∧ P (.str (toString i)) S) := rfl
theorem b_sum {v} : wBlt .sum [v] S P = ∃ ns : List Int, LV S v (ns.map Va.int) ∧ P (.int ns.sum) S := rfl
theorem b_max1 {v} : wBlt .max1 [v] S P = ∃ ns : List Int, LV S v (ns.map Va.int) ∧ 0 < ns.length ∧ ∀ m, m ∈ ns → (∀ y, y ∈ ns → y ≤ m) → P (.int m) S := rfl
theorem sl_lst {xs lo hi} : wSlice (.lst xs) lo hi S P = P (.loc S.length) (S ++ [.lst (cutA xs lo hi)]) := rfl
theorem sl_loc {k lo hi} : wSlice (.loc k) lo hi S P = ∃ xs, S[k]? = some (.lst xs) ∧ P (.loc S.length) (S ++ [.lst (cutA xs lo hi)]) := rfl
theorem sl_scr {ns lo hi} : wSlice (.scr ns) lo hi S P = P (.loc S.length) (S ++ [.lst ((cutA ns lo hi).map Va.int)]) := rfl
theorem sl_tupE {xs lo hi} : wSlice (.tup xs) lo hi S P = (¬ (HT.sIx xs.length 0 lo = 0 ∧ HT.sIx xs.length xs.length hi = xs.length) ∧ P (.tup (cutA xs lo hi)) S) := rfl
theorem sl_strE {z lo hi} : wSlice (.str z) lo hi S P = (z.length ≤ sizeLine ∧ P (.str (L2.cutS z lo hi)) S) := rfl
theorem cat_lst {xs y} : wBin .add (.lst xs) y S P = ∃ b, LV S (.lst xs) b ∧ ∃ ys, LV S y ys ∧ b.length + ys.length ≤ 1000000 ∧ P (.loc S.length) (S ++ [.lst (b ++ ys)]) := rfl
theorem cat_loc {k y} : wBin .add (.loc k) y S P = ∃ b, LV S (.loc k) b ∧ ∃ ys, LV S y ys ∧ b.length + ys.length ≤ 1000000 ∧ P (.loc S.length) (S ++ [.lst (b ++ ys)]) := rfl
theorem cat_tup {xs ys} : wBin .add (.tup xs) (.tup ys) S P = (xs ≠ [] ∧ xs.length + ys.length ≤ 1000000 ∧ P (.tup (xs ++ ys)) S) := rfl
theorem wLen_scr {ns} : wLen (.scr ns) S P = P (.int ns.length) S := rfl
theorem wLen_loc {k} : wLen (.loc k) S P = ∃ o, S[k]? = some o ∧ lenO o S P := rfl
theorem wLen_str {x} : wLen (.str x) S P = (x.length ≤ sizeLine ∧ P (.int x.length) S) := rfl
theorem wSub_scr {ns i} : wSub (.scr ns) (.int i) S P = ∃ n, L2.atI ns i = some n ∧ P (.int n) S := rfl
theorem wSub_loc {k y} : wSub (.loc k) y S P = ∃ o, S[k]? = some o ∧ subO o y S P := rfl
theorem wSub_str {z i} : wSub (.str z) (.int i) S P = ∃ c, z.length ≤ sizeLine ∧ L2.atI z.cps.toList i = some c ∧ P (.str ⟨#[c]⟩) S := rfl
theorem aug_add {n m : Int} : augI .add n m = some (n + m) := rfl
theorem aug_sub {n m : Int} : augI .sub n m = some (n - m) := rfl
theorem tru_lst {xs} : tru S (.lst xs) = some (!xs.isEmpty) := rfl
theorem tru_tup {xs} : tru S (.tup xs) = some (!xs.isEmpty) := rfl
theorem tru_non : tru S .non = some false := rfl
theorem tru_loc {k xs} (h : S[k]? = some (.lst xs)) : tru S (.loc k) = some (!xs.isEmpty) := by simp only [tru, h]
theorem ty_loc {k xs t} (h : S[k]? = some (.lst xs)) : tyIs S (.loc k) t = some (t == .list) := by simp only [tyIs, h]
theorem ty_scr_list {ns} : tyIs S (.scr ns) .list = some true := rfl
end
/-! ### places in the store -/
section
variable {S l : Sto} {i : Nat} {o : Ob}
theorem sg_p0 : (S ++ l)[S.length]? = l[0]? := by
  rw [List.getElem?_append_right (Nat.le_refl _), Nat.sub_self]
theorem sg_pl : (S ++ l)[S.length + i]? = l[i]? := by
  rw [List.getElem?_append_right (Nat.le_add_right _ _), Nat.add_sub_cancel_left]
theorem ss_p0 : (S ++ l).set S.length o = S ++ l.set 0 o := by
  rw [List.set_append_right _ _ (Nat.le_refl _), Nat.sub_self]
theorem ss_pl : (S ++ l).set (S.length + i) o = S ++ l.set i o := by
  rw [List.set_append_right _ _ (Nat.le_add_right _ _), Nat.add_sub_cancel_left]
end
theorem ob_set0 {o u : Ob} {r : Sto} : List.set (o :: r) 0 u = u :: r := rfl
theorem ob_setS {o u : Ob} {r : Sto} {i : Nat} : List.set (o :: r) (i + 1) u = o :: List.set r i u := rfl
theorem ob_set1 {o o1 u : Ob} {r : Sto} : List.set (o :: o1 :: r) 1 u = o :: u :: r := rfl
theorem ob_set2 {o o1 o2 u : Ob} {r : Sto} : List.set (o :: o1 :: o2 :: r) 2 u = o :: o1 :: u :: r := rfl
theorem ob_set3 {o o1 o2 o3 u : Ob} {r : Sto} : List.set (o :: o1 :: o2 :: o3 :: r) 3 u = o :: o1 :: o2 :: u :: r := rfl
theorem ob_g0 {o : Ob} {r : Sto} : (o :: r)[0]? = some o := rfl
theorem ob_g1 {o o1 : Ob} {r : Sto} : (o :: o1 :: r)[1]? = some o1 := rfl
theorem ob_g2 {o o1 o2 : Ob} {r : Sto} : (o :: o1 :: o2 :: r)[2]? = some o2 := rfl
theorem ob_g3 {o o1 o2 o3 : Ob} {r : Sto} : (o :: o1 :: o2 :: o3 :: r)[3]? = some o3 := rfl
/-! ### small places -/
theorem at_0 {x0 : Va} {xs : List Va} : L2.atI (x0 :: xs) 0 = some x0 := L2.atI_nat (j := 0) rfl
theorem at_1 {x0 x1 : Va} {xs : List Va} : L2.atI (x0 :: x1 :: xs) 1 = some x1 := L2.atI_nat (j := 1) rfl
theorem at_2 {x0 x1 x2 : Va} {xs : List Va} : L2.atI (x0 :: x1 :: x2 :: xs) 2 = some x2 := L2.atI_nat (j := 2) rfl
theorem at_3 {x0 x1 x2 x3 : Va} {xs : List Va} : L2.atI (x0 :: x1 :: x2 :: x3 :: xs) 3 = some x3 := L2.atI_nat (j := 3) rfl
theorem at_4 {x0 x1 x2 x3 x4 : Va} {xs : List Va} : L2.atI (x0 :: x1 :: x2 :: x3 :: x4 :: xs) 4 = some x4 := L2.atI_nat (j := 4) rfl
theorem at_5 {x0 x1 x2 x3 x4 x5 : Va} {xs : List Va} : L2.atI (x0 :: x1 :: x2 :: x3 :: x4 :: x5 :: xs) 5 = some x5 := L2.atI_nat (j := 5) rfl
theorem ix_1_0 : L2.ixN 1 0 = some 0 := rfl
theorem ix_2_0 : L2.ixN 2 0 = some 0 := rfl
theorem ix_2_1 : L2.ixN 2 1 = some 1 := rfl
theorem ix_3_0 : L2.ixN 3 0 = some 0 := rfl
theorem ix_3_1 : L2.ixN 3 1 = some 1 := rfl
theorem ix_3_2 : L2.ixN 3 2 = some 2 := rfl
theorem ix_4_0 : L2.ixN 4 0 = some 0 := rfl
theorem ix_4_1 : L2.ixN 4 1 = some 1 := rfl
theorem ix_4_2 : L2.ixN 4 2 = some 2 := rfl
theorem ix_4_3 : L2.ixN 4 3 = some 3 := rfl
theorem va_s0 {x v : Va} {r : List Va} : List.set (x :: r) 0 v = v :: r := rfl
theorem va_s1 {x x1 v : Va} {r : List Va} : List.set (x :: x1 :: r) 1 v = x :: v :: r := rfl
theorem va_s2 {x x1 x2 v : Va} {r : List Va} : List.set (x :: x1 :: x2 :: r) 2 v = x :: x1 :: v :: r := rfl
theorem va_s3 {x x1 x2 x3 v : Va} {r : List Va} : List.set (x :: x1 :: x2 :: x3 :: r) 3 v = x :: x1 :: x2 :: v :: r := rfl
/-! ### without places -/
mutual
def pl : Va → Bool
  | .tup xs => pls xs
  | .lst xs => pls xs
  | .dct xs => plk xs
  | .loc _ => false
  | .non => true
  | .bl _ => true
  | .int _ => true
  | .str _ => true
  | .scr _ => true
def pls : List Va → Bool
  | [] => true
  | x :: xs => pl x && pls xs
def plk : List (Key × Va) → Bool
  | [] => true
  | (_, x) :: xs => pl x && plk xs
end
section
variable {S : Sto} {n : Nat}
mutual
theorem fz_pl : ∀ {v : Va}, pl v = true → Fz S n v v
  | .tup xs, h => ⟨xs, rfl, fzs_pl h⟩
  | .lst xs, h => ⟨xs, .inl rfl, fzs_pl h⟩
  | .dct xs, h => ⟨xs, .inl rfl, fzk_pl h⟩
  | .loc _, h => by cases h
  | .non, _ => rfl
  | .bl _, _ => rfl
  | .int _, _ => rfl
  | .str _, _ => rfl
  | .scr _, _ => rfl
theorem fzs_pl : ∀ {v : List Va}, pls v = true → Fzs S n v v
  | [], _ => rfl
  | x :: xs, h => by
    obtain ⟨h1, h2⟩ := Bool.and_eq_true_iff.mp h
    exact ⟨x, xs, rfl, fz_pl h1, fzs_pl h2⟩
theorem fzk_pl : ∀ {v : List (Key × Va)}, plk v = true → Fzk S n v v
  | [], _ => rfl
  | (k, x) :: xs, h => by
    obtain ⟨h1, h2⟩ := Bool.and_eq_true_iff.mp h
    exact ⟨x, xs, rfl, fz_pl h1, fzk_pl h2⟩
end
end
theorem pls_iff : ∀ {xs : List Va}, pls xs = true ↔ ∀ x ∈ xs, pl x = true
  | [] => by simp [pls]
  | x :: xs => by simp [pls, pls_iff (xs := xs)]
/-- a value without places, the store as at the start -/
theorem fin_val {S : Sto} {N : Sto} {P : PV} {v : Va} (hv : pl v = true) (h : P v S) : fin S P v (S ++ N) := fin_pure (fz_pl hv) h
/-- a list made here -/
theorem fin_lst {S : Sto} {N : Sto} {P : PV} {i : Nat} {xs : List Va} (hg : N[i]? = some (.lst xs)) (hv : pls xs = true) (h : P (.lst xs) S) : fin S P (.loc (S.length + i)) (S ++ N) :=
  fin_pure (v' := .lst xs) ⟨xs, .inr ⟨_, rfl, Nat.le_add_right _ _, by rw [sg_pl]; exact hg⟩, fzs_pl hv⟩ h
theorem fin_lst0 {S : Sto} {N : Sto} {P : PV} {xs : List Va} (hg : N[0]? = some (.lst xs)) (hv : pls xs = true) (h : P (.lst xs) S) : fin S P (.loc S.length) (S ++ N) :=
  fin_lst (i := 0) hg hv h
theorem finX_cut {S : Sto} {N : Sto} {E : PX} {x : Str} (h : E x S) : finX S E x (S ++ N) :=
  ⟨S, .inr ⟨by simp, by simp, fun i o hi e => .inl (by rw [List.getElem?_append_left hi] at e; exact e)⟩, h⟩
/-! ### dicts, objects -/
section
variable {C : Orc} {Γ : Env} {S : Sto} {P : PV} {E : PX} {D : AEnds} {T : Tab} {k : Nat}
theorem orc_run : (orc T k).run = call T k := rfl
theorem orc_glob : (orc T k).glob = T.glob := rfl
theorem orc_isa : (orc T k).isa = T.isa := rfl
theorem orc_gdct : (orc T k).gdct = T.gdct := rfl
theorem W_isc {a x} : W C (.isc a x) Γ S P E = W C a Γ S (fun v S1 => ∃ k, v = .loc k ∧ ∃ ob, S1[k]? = some ob ∧ ∃ b, clsIs C x ob = some b ∧ P (.bl b) S1) E := rfl
theorem b_intB {b} : wBlt .int [.bl b] S P = P (.int (if b = true then 1 else 0)) S := rfl
theorem orc_init : (orc T k).init = T.init := rfl
theorem W_gget {x k d} : W C (.gget x k d) Γ S P E = (∃ l, C.gdct x = some l ∧ W C k Γ S (fun y S1 => W C d Γ S1 (fun z S2 => ∃ s, y = .str s ∧ ∃ o, l.lookup s = some o ∧ P (o.getD z) S2) E) E) := rfl
theorem W_get2 {o k d} : W C (.get2 o k d) Γ S P E = W C o Γ S (fun x S1 => isD S1 x ∧ W C k Γ S1 (fun y S2 => W C d Γ S2 (fun z S3 => ∃ kvs, LD S3 x kvs ∧ ∃ kk, keyV y = some kk ∧ P ((dget kvs kk).getD z) S3) E) E) E := rfl
theorem W_glob {x} : W C (.glob x) Γ S P E = ∃ v, C.glob x = some v ∧ P v S := rfl
theorem W_fld {o f} : W C (.fld o f) Γ S P E = W C o Γ S (fun x S1 => ∃ k, x = .loc k ∧ ∃ ob, S1[k]? = some ob ∧ ∃ v, fldO C f ob = some v ∧ P v S1) E := rfl
theorem W_mcall {o m es} : W C (.mcall o m es) Γ S P E = W C o Γ S (fun x S1 => ∃ k, x = .loc k ∧ ∃ ob, S1[k]? = some ob ∧ ∃ key, mkey C m ob = some key ∧ WL C es Γ S1 (fun vs S2 => C.run key (x :: vs) S2 P E) E) E := rfl
theorem W_make {c es} : W C (.make c es) Γ S P E = ∃ key, C.init c = some (some key) ∧ WL C es Γ S (fun vs S1 => C.run key (.loc S1.length :: vs) (S1 ++ [.ins c []]) (fun v S2 => v = .non ∧ P (.loc S1.length) S2) E) E := rfl
theorem W_make0 {c} : W C (.make0 c) Γ S P E = (C.init c = some none ∧ P (.loc S.length) (S ++ [.ins c []])) := rfl
theorem W_dsp {es} : W C (.dsp es) Γ S P E = WL C es Γ (S ++ [.dct []]) (fun vs S1 => ∃ kvs, pairsV vs = some kvs ∧ kvs.length ≤ 15 ∧ S1[S.length]? = some (.dct []) ∧ P (.loc S.length) (S1.set S.length (.dct (mergeA [] kvs)))) E := rfl
theorem Ss_setFld {o f e ss} : WSs C (.cons (.setFld o f e) ss) D Γ S = W C e Γ S (fun v S1 => W C o Γ S1 (fun x S2 => ∃ k, x = .loc k ∧ ∃ ob, S2[k]? = some ob ∧ ∃ ob', putFO C f v ob = some ob' ∧ WSs C ss D Γ (S2.set k ob')) (fun x S1 => D.ex x Γ S1)) (fun x S1 => D.ex x Γ S1) := rfl
theorem subO_l {xs i} : subO (.lst xs) (.int i) S P = ∃ v, L2.atI xs i = some v ∧ P v S := rfl
theorem subO_d {kvs y} : subO (.dct kvs) y S P = ∃ kk, keyV y = some kk ∧ ∃ v, dget kvs kk = some v ∧ P v S := by cases y <;> rfl
theorem lenO_l {xs} : lenO (.lst xs) S P = P (.int xs.length) S := rfl
theorem lenO_d {xs} : lenO (.dct xs) S P = P (.int xs.length) S := rfl
theorem listO_l {xs} : listO (.lst xs) S P = P (.loc S.length) (S ++ [.lst xs]) := rfl
theorem listO_d {kvs} : listO (.dct kvs) S P = P (.loc S.length) (S ++ [.lst (kvs.map fun kv => keyA kv.1)]) := rfl
theorem putO_l {xs : List Va} {j : Int} {v : Va} : putO (.lst xs) (.int j) v = (L2.ixN xs.length j).map fun n => .lst (xs.set n v) := rfl
theorem putO_d {kvs : List (Key × Va)} {y v : Va} {kk : Key} (h : keyV y = some kk) (hl : kvs.length < 1000000) : putO (.dct kvs) y v = some (.dct (dput kvs kk v)) := by
  have e : putO (.dct kvs) y v = match keyV y with
    | some kk => if kvs.length < 1000000 then some (.dct (dput kvs kk v)) else none
    | none => none := by cases y <;> rfl
  rw [e, h]
  simp only [if_pos hl]
theorem wIn_str {x y : Str} : wCmp .isin (.str x) (.str y) S P = (x.length = 1 ∧ P (.bl (decide (x.cps.getD 0 0 ∈ y.cps.toList))) S) := rfl
theorem wIsb {a b : Bool} : wCmp .isb (.bl a) (.bl b) S P = P (.bl (decide (a = b))) S := rfl
theorem wNisb {a b : Bool} : wCmp .nisb (.bl a) (.bl b) S P = P (.bl (!decide (a = b))) S := rfl
theorem wNotin_str {x y : Str} : wCmp .notin (.str x) (.str y) S P = (x.length = 1 ∧ P (.bl (!decide (x.cps.getD 0 0 ∈ y.cps.toList))) S) := rfl
theorem fin_dct0 {S : Sto} {N : Sto} {P : PV} {kvs : List (Key × Va)} (hg : N[0]? = some (.dct kvs)) (hv : plk kvs = true) (h : P (.dct kvs) S) : fin S P (.loc S.length) (S ++ N) :=
  fin_pure (v' := .dct kvs) ⟨kvs, .inr ⟨_, rfl, Nat.le_refl _, by rw [sg_p0]; exact hg⟩, fzk_pl hv⟩ h
theorem keyV_int {i : Int} : keyV (.int i) = some (.inl i) := rfl
theorem keyV_str {x : Str} : keyV (.str x) = some (.inr x) := rfl
theorem mapSome {α γ : Type} {f : α → γ} {a : α} : (some a).map f = some (f a) := rfl
end
/-! ### walks by a word -/
section
variable {C : Orc}
theorem frL_ix {bind : Va → Env → Sto → Option Env} {b : PE_ → Env → Sto → Prop} {G : Sto → Prop} {nx : PE_} (hb : ∀ Γ S (N N' : PE_), (∀ Γ S, N Γ S → N' Γ S) → b N Γ S → b N' Γ S) {xs : List Va} (I : Nat → Env → Sto → Prop)
    (hs : ∀ i x Γ S, xs[i]? = some x → I i Γ S → ∃ Γ1, bind x Γ S = some Γ1 ∧ b (fun Γ' S' => G S' ∧ I (i + 1) Γ' S') Γ1 S) (hd : ∀ Γ S, I xs.length Γ S → nx Γ S) : ∀ {Γ S}, I 0 Γ S → frL bind b G nx xs Γ S := by
  have key : ∀ (m i : Nat) (Γ : Env) (S : Sto), i + m = xs.length → I i Γ S → frL bind b G nx (xs.drop i) Γ S := by
    intro m
    induction m with
    | zero =>
      intro i Γ S hi h
      rw [List.drop_eq_nil_of_le (by omega)]
      have e : i = xs.length := by omega
      subst e
      exact hd Γ S h
    | succ m ih =>
      intro i Γ S hi h
      have hlt : i < xs.length := by omega
      rw [List.drop_eq_getElem_cons hlt]
      obtain ⟨Γ1, h1, h2⟩ := hs i xs[i] Γ S (by simp [hlt]) h
      exact ⟨Γ1, h1, hb _ _ _ _ (fun Γ' S' ⟨g, z⟩ => ⟨g, ih (i + 1) Γ' S' (by omega) z⟩) h2⟩
  intro Γ S h
  exact key xs.length 0 Γ S (by omega) h
/-- a for by a word of the turn's number -/
theorem for_ix (hC : OrcMono C) {tg : Tg} {b : Sms} {D : AEnds} {G : Sto → Prop} {xs : List Va} {Γ : Env} {S : Sto} (I : Nat → Env → Sto → Prop) (h0 : I 0 Γ S)
    (hs : ∀ i x Γ S, xs[i]? = some x → I i Γ S → ∃ Γ1, bindT S tg x Γ = some Γ1 ∧ WSs C b { D with nx := fun Γ' S' => G S' ∧ I (i + 1) Γ' S', ct := fun Γ' S' => G S' ∧ I (i + 1) Γ' S', bk := D.nx } Γ1 S) (hd : ∀ Γ S, I xs.length Γ S → D.nx Γ S) :
    forB C tg b D G xs Γ S :=
  frL_ix (nx := D.nx) (fun Γ S N N' hN q => WSs_mono hC b { D with nx := N, ct := N, bk := D.nx } { D with nx := N', ct := N', bk := D.nx } Γ S ⟨hN, fun _ _ z => z, fun _ _ z => z, hN, fun _ _ _ z => z⟩ q) I hs hd h0
/-- a comprehension whose parts leave the store as it is -/
theorem cpL_map (hC : OrcMono C) {own : List Nat} {elt : Ex} {tg : Tg} {cond : Tes0} {G : Sto → Prop} {Γ : Env} {S1 : Sto} {P : PV} {xs : List Va} (f : Va → Option Va) (hn : xs.length ≤ 1000000) (hG : ∀ acc, G (S1 ++ [.lst acc]))
    (h : ∀ x ∈ xs, ∀ acc, ∃ Γ1, bindT (S1 ++ [.lst acc]) tg x (wipeA Γ own) = some Γ1 ∧ WT0 C cond Γ1 (S1 ++ [.lst acc]) fun b S2 => S2 = S1 ++ [.lst acc] ∧ match f x with
      | some v => b = true ∧ W C elt Γ1 (S1 ++ [.lst acc]) (fun v' S3 => v' = v ∧ S3 = S1 ++ [.lst acc]) (fun _ _ => False)
      | none => b = false) (hP : P (.loc S1.length) (S1 ++ [.lst (xs.filterMap f)])) :
    cpB C own elt tg cond G S1.length P xs Γ (S1 ++ [.lst []]) := by
  have key : ∀ (ys : List Va) (acc : List Va), (∀ x ∈ ys, x ∈ xs) → acc.length + ys.length ≤ 1000000 → P (.loc S1.length) (S1 ++ [.lst (acc ++ ys.filterMap f)]) →
      cpL (fun x S => bindT S tg x (wipeA Γ own)) (fun Γ S Q => WT0 C cond Γ S Q) (fun Γ S Q => W C elt Γ S Q (fun _ _ => False)) G S1.length P ys (S1 ++ [.lst acc]) := by
    intro ys
    induction ys with
    | nil =>
      intro acc _ _ hp
      rw [List.filterMap_nil, List.append_nil] at hp
      exact hp
    | cons y ys ih =>
      intro acc hin hl hp
      rw [List.length_cons] at hl
      obtain ⟨Γ1, h1, h2⟩ := h y (hin y List.mem_cons_self) acc
      refine ⟨Γ1, h1, WT0_mono hC cond _ _ _ _ (fun b S2 q => ?_) h2⟩
      obtain ⟨e, q⟩ := q
      rw [e]
      cases hf : f y with
      | some v =>
        rw [hf] at q
        obtain ⟨hb, q⟩ := q
        rw [hb, if_pos rfl]
        refine W_mono hC elt _ _ _ _ _ _ (fun v' S3 ⟨e1, e2⟩ => ?_) (fun _ _ z => z) q
        rw [e1, e2]
        have e3 : (S1 ++ [Ob.lst acc]).set S1.length (.lst (acc ++ [v])) = S1 ++ [.lst (acc ++ [v])] := by rw [ss_p0]; rfl
        refine ⟨acc, by rw [sg_p0]; rfl, by omega, by rw [e3]; exact hG _, ?_⟩
        rw [e3]
        refine ih _ (fun x hx => hin x (List.mem_cons_of_mem _ hx)) (by simp; omega) ?_
        rw [List.filterMap_cons_some hf] at hp
        simpa using hp
      | none =>
        rw [hf] at q
        rw [q, if_neg (by decide)]
        refine ⟨hG _, ih _ (fun x hx => hin x (List.mem_cons_of_mem _ hx)) (by omega) ?_⟩
        rw [List.filterMap_cons_none hf] at hp
        exact hp
  exact key xs [] (fun _ z => z) (by simpa using hn) (by simpa using hP)
end
theorem rangeV_get {lo : Int} {n i : Nat} {x : Va} (h : (rangeV lo n)[i]? = some x) : i < n ∧ x = .int (lo + i) := by
  have hi : i < n := by
    have := L2.atI_nat (j := i) h
    have := lt_of_get h
    simpa [rangeV] using this
  unfold rangeV at h
  rw [List.getElem?_map, List.getElem?_range hi] at h
  exact ⟨hi, by cases h; rfl⟩
theorem rangeV_len {lo : Int} {n : Nat} : (rangeV lo n).length = n := by simp [rangeV]
end AM
end

section
set_option linter.all false
set_option maxRecDepth 100000
set_option maxHeartbeats 4000000
/-! AM, tenth part: data held against data; lists wherever they stand. -/
namespace AM
open PySem L2
mutual
/-- plain data -/
def dat : Va → Bool
  | .non => true
  | .bl _ => true
  | .int _ => true
  | .str x => PyData.strOk x
  | .tup xs => dats xs
  | .lst xs => dats xs
  | .dct _ => false
  | .loc _ => false
  | .scr _ => false
def dats : List Va → Bool
  | [] => true
  | x :: xs => dat x && dats xs
end
mutual
def pd : Va → PyData
  | .non => .none
  | .bl b => .bool b
  | .int i => .int i
  | .str x => .str x
  | .tup xs => .tuple (pds xs)
  | .lst xs => .list (pds xs)
  | .dct _ => .none
  | .loc _ => .none
  | .scr _ => .none
def pds : List Va → List PyData
  | [] => []
  | x :: xs => pd x :: pds xs
end
mutual
def dep : Va → Nat
  | .tup xs => deps xs + 1
  | .lst xs => deps xs + 1
  | .non => 0
  | .bl _ => 0
  | .int _ => 0
  | .str _ => 0
  | .dct _ => 0
  | .loc _ => 0
  | .scr _ => 0
def deps : List Va → Nat
  | [] => 0
  | x :: xs => max (dep x) (deps xs)
end
section
variable {S : Sto}
mutual
theorem dv_pd : ∀ {v : Va}, dat v = true → DV S v (pd v)
  | .non, _ => .non
  | .bl b, _ => .bl b
  | .int i, _ => .int i
  | .str x, _ => .str x
  | .tup xs, h => .tup (dvs_pd h)
  | .lst xs, h => .lst (dvs_pd h)
  | .dct _, h => by cases h
  | .loc _, h => by cases h
  | .scr _, h => by cases h
theorem dvs_pd : ∀ {v : List Va}, dats v = true → DVs S v (pds v)
  | [], _ => .nil
  | x :: xs, h => .cons (dv_pd (Bool.and_eq_true_iff.mp h).1) (dvs_pd (Bool.and_eq_true_iff.mp h).2)
end
end
mutual
theorem pd_lay : ∀ {v : Va}, dat v = true → PyData.canLay0 (pd v) = true ∧ (pd v).depth = dep v
  | .non, _ => by simp [pd, dep, PyData.canLay0, PyData.depth]
  | .bl b, _ => by simp [pd, dep, PyData.canLay0, PyData.depth]
  | .int i, _ => by simp [pd, dep, PyData.canLay0, PyData.depth]
  | .str x, h => by simp [pd, dep, PyData.canLay0, PyData.depth]; exact h
  | .tup xs, h => by
    obtain ⟨h1, h2⟩ := pds_lay (v := xs) h
    simp [pd, dep, PyData.canLay0, PyData.depth, h1, h2]
  | .lst xs, h => by
    obtain ⟨h1, h2⟩ := pds_lay (v := xs) h
    simp [pd, dep, PyData.canLay0, PyData.depth, h1, h2]
  | .dct _, h => by cases h
  | .loc _, h => by cases h
  | .scr _, h => by cases h
theorem pds_lay : ∀ {v : List Va}, dats v = true → PyData.canLayAll0 (pds v) = true ∧ PyData.depthAll (pds v) = deps v
  | [], _ => by simp [pds, deps, PyData.canLayAll0, PyData.depthAll]
  | x :: xs, h => by
    obtain ⟨h1, h2⟩ := pd_lay (v := x) (Bool.and_eq_true_iff.mp h).1
    obtain ⟨h3, h4⟩ := pds_lay (v := xs) (Bool.and_eq_true_iff.mp h).2
    simp [pds, deps, PyData.canLayAll0, PyData.depthAll, h1, h2, h3, h4]
end
theorem pd_shaped {v : Va} (h : dat v = true) (h2 : dep v ≤ 64) : SeqAt.shaped (pd v) = true := by
  obtain ⟨h3, h4⟩ := pd_lay h
  unfold SeqAt.shaped
  rw [h3, h4, decide_eq_true h2]; rfl
mutual
theorem eqv_self : ∀ {v : Va}, dat v = true → PyData.eqv (pd v) (pd v) = true
  | .non, _ => by simp [pd, PyData.eqv]
  | .bl b, _ => by simp [pd, PyData.eqv]
  | .int i, _ => by simp [pd, PyData.eqv]
  | .str x, _ => by simp [pd, PyData.eqv]
  | .tup xs, h => by simp [pd, PyData.eqv, eqvs_self (v := xs) h]
  | .lst xs, h => by simp [pd, PyData.eqv, eqvs_self (v := xs) h]
  | .dct _, h => by cases h
  | .loc _, h => by cases h
  | .scr _, h => by cases h
theorem eqvs_self : ∀ {v : List Va}, dats v = true → PyData.eqvAll (pds v) (pds v) = true
  | [], _ => by simp [pds, PyData.eqvAll]
  | x :: xs, h => by
    simp [pds, PyData.eqvAll, eqv_self (v := x) (Bool.and_eq_true_iff.mp h).1, eqvs_self (v := xs) (Bool.and_eq_true_iff.mp h).2]
end
theorem dats_iff : ∀ {xs : List Va}, dats xs = true ↔ ∀ x ∈ xs, dat x = true
  | [] => by simp [dats]
  | x :: xs => by simp [dats, dats_iff (xs := xs)]
theorem deps_le {n : Nat} : ∀ {xs : List Va}, (∀ x ∈ xs, dep x ≤ n) → deps xs ≤ n
  | [], _ => Nat.zero_le _
  | x :: xs, h => Nat.max_le.mpr ⟨h x List.mem_cons_self, deps_le fun y hy => h y (List.mem_cons_of_mem _ hy)⟩
section
variable {S : Sto} {v y z : Va} {xs ys : List Va} {P : PV} {I : PI_}
theorem LV.dv (h : LV S v xs) (hd : dats xs = true) : DV S v (pd (.lst xs)) := by
  rcases h with rfl | ⟨k, rfl, hk⟩
  · exact dv_pd (v := .lst xs) hd
  · exact .loc hk (dvs_pd hd)
theorem eq_by {d : Va} (hx : DV S y (pd d)) (hy : DV S z (pd d)) (h1 : dat d = true) (h2 : dep d ≤ 64) (h : P (.bl true) S) : wCmp .eq y z S P := by
  simp only [wCmp]
  exact .inr ⟨_, _, hx, hy, pd_shaped h1 h2, pd_shaped h1 h2, by rw [eqv_self h1]; exact h⟩
theorem ne_by {d : Va} (hx : DV S y (pd d)) (hy : DV S z (pd d)) (h1 : dat d = true) (h2 : dep d ≤ 64) (h : P (.bl false) S) : wCmp .ne y z S P := by
  simp only [wCmp]
  exact .inr ⟨_, _, hx, hy, pd_shaped h1 h2, pd_shaped h1 h2, by rw [eqv_self h1]; exact h⟩
/-- a walk of a list that stands, through stores that keep what stood -/
theorem LV.seq (h : LV S v xs) (hI : ∀ G : Sto → Prop, (∀ S', (∀ (k : Nat) (o : Ob), S[k]? = some o → S'[k]? = some o) → G S') → I xs G S) : wSeq v S I := by
  rcases h with rfl | ⟨k, rfl, hk⟩
  · exact hI _ fun _ _ => trivial
  · exact ⟨xs, hk, hI _ fun S' h => h k _ hk⟩
theorem LV.wlst (h : LV S v xs) (hI : ∀ G : Sto → Prop, (∀ S', (∀ (k : Nat) (o : Ob), S[k]? = some o → S'[k]? = some o) → G S') → I xs G S) : wLst v S I := by
  rcases h with rfl | ⟨k, rfl, hk⟩
  · exact hI _ fun _ _ => trivial
  · exact ⟨xs, hk, hI _ fun S' h => h k _ hk⟩
theorem LV.list (h : LV S v xs) (hp : P (.loc S.length) (S ++ [.lst xs])) : wBlt .list [v] S P := by
  rcases h with rfl | ⟨k, rfl, hk⟩
  · exact hp
  · exact ⟨.lst xs, hk, hp⟩
theorem LV.tuple (h : LV S v xs) (hp : P (.tup xs) S) : wBlt .tuple [v] S P := by
  rcases h with rfl | ⟨k, rfl, hk⟩
  · exact hp
  · exact ⟨xs, hk, hp⟩
theorem LV.len (h : LV S v xs) (hp : P (.int xs.length) S) : wLen v S P := by
  rcases h with rfl | ⟨k, rfl, hk⟩
  · exact hp
  · exact ⟨.lst xs, hk, hp⟩
theorem LV.cat (h : LV S v xs) (h' : LV S y ys) (hl : xs.length + ys.length ≤ 1000000) (hp : P (.loc S.length) (S ++ [.lst (xs ++ ys)])) : wBin .add v y S P := by
  rcases h with rfl | ⟨k, rfl, hk⟩
  · exact ⟨xs, .inl rfl, ys, h', hl, hp⟩
  · exact ⟨xs, .inr ⟨k, rfl, hk⟩, ys, h', hl, hp⟩
theorem LV.slice {lo hi : Option Int} (h : LV S v xs) (hp : P (.loc S.length) (S ++ [.lst (cutA xs lo hi)])) : wSlice v lo hi S P := by
  rcases h with rfl | ⟨k, rfl, hk⟩
  · exact hp
  · exact ⟨xs, hk, hp⟩
theorem LV.sub {i : Int} {u : Va} (h : LV S v xs) (hi : L2.atI xs i = some u) (hp : P u S) : wSub v (.int i) S P := by
  rcases h with rfl | ⟨k, rfl, hk⟩
  · exact ⟨u, hi, hp⟩
  · exact ⟨.lst xs, hk, u, hi, hp⟩
theorem LV.ty {t : Ty} (h : LV S v xs) : tyIs S v t = some (t == .list) := by
  rcases h with rfl | ⟨k, rfl, hk⟩
  · rfl
  · exact ty_loc hk
theorem LV.tru (h : LV S v xs) : AM.tru S v = some (!xs.isEmpty) := by
  rcases h with rfl | ⟨k, rfl, hk⟩
  · rfl
  · exact tru_loc hk
theorem LV.parts (h : LV S v xs) : partsOf S v = some xs := by
  rcases h with rfl | ⟨k, rfl, hk⟩
  · rfl
  · simp only [partsOf, hk]
theorem LV.bind {ts : Tgs} {Γ : Env} (h : LV S v xs) : bindT S (.tup ts) v Γ = bindTs S ts xs Γ := by
  simp only [bindT, h.parts]
/-- .. in a longer store -/
theorem LV.more (h : LV S v xs) (N : Sto) : LV (S ++ N) v xs := by
  rcases h with rfl | ⟨k, rfl, hk⟩
  · exact .inl rfl
  · exact .inr ⟨k, rfl, by rw [List.getElem?_append_left (lt_of_get hk)]; exact hk⟩
theorem LV.here {xs : List Va} {N : Sto} : LV (S ++ (.lst xs :: N)) (.loc S.length) xs := .inr ⟨_, rfl, by rw [sg_p0]; rfl⟩
theorem LV.at {i : Nat} {N : Sto} (h : N[i]? = some (.lst xs)) : LV (S ++ N) (.loc (S.length + i)) xs := .inr ⟨_, rfl, by rw [sg_pl]; exact h⟩
theorem kept_app {N : Sto} : ∀ (k : Nat) (o : Ob), S[k]? = some o → (S ++ N)[k]? = some o := fun k o h => by
  rw [List.getElem?_append_left (lt_of_get h)]; exact h
end
/-- a comprehension by a word of the turn and of what was gathered -/
theorem cpL_inv {C : Orc} (hC : OrcMono C) {own : List Nat} {elt : Ex} {tg : Tg} {cond : Tes0} {G : Sto → Prop} {Γ : Env} {S1 : Sto} {P : PV} {xs : List Va} (I : Nat → List Va → Prop) (hG : ∀ acc, G (S1 ++ [.lst acc])) (h0 : I 0 [])
    (h : ∀ i x acc, xs[i]? = some x → I i acc → ∃ Γ1, bindT (S1 ++ [.lst acc]) tg x (wipeA Γ own) = some Γ1 ∧ WT0 C cond Γ1 (S1 ++ [.lst acc]) fun b S2 => S2 = S1 ++ [.lst acc] ∧ if b = true then W C elt Γ1 (S1 ++ [.lst acc]) (fun v S3 => S3 = S1 ++ [.lst acc] ∧ acc.length < 1000000 ∧ I (i + 1) (acc ++ [v])) (fun _ _ => False) else I (i + 1) acc)
    (hP : ∀ acc, I xs.length acc → P (.loc S1.length) (S1 ++ [.lst acc])) : cpB C own elt tg cond G S1.length P xs Γ (S1 ++ [.lst []]) := by
  have key : ∀ (m i : Nat) (acc : List Va), i + m = xs.length → I i acc → cpL (fun x S => bindT S tg x (wipeA Γ own)) (fun Γ S Q => WT0 C cond Γ S Q) (fun Γ S Q => W C elt Γ S Q (fun _ _ => False)) G S1.length P (xs.drop i) (S1 ++ [.lst acc]) := by
    intro m
    induction m with
    | zero =>
      intro i acc hi hI
      have e : i = xs.length := by omega
      subst e
      rw [List.drop_length]
      exact hP acc hI
    | succ m ih =>
      intro i acc hi hI
      have hlt : i < xs.length := by omega
      rw [List.drop_eq_getElem_cons hlt]
      obtain ⟨Γ1, h1, h2⟩ := h i xs[i] acc (by simp [hlt]) hI
      refine ⟨Γ1, h1, WT0_mono hC cond _ _ _ _ (fun b S2 ⟨e, q⟩ => ?_) h2⟩
      rw [e]
      cases b with
      | true =>
        rw [if_pos rfl] at q ⊢
        refine W_mono hC elt _ _ _ _ _ _ (fun v S3 ⟨e2, q1, q2⟩ => ?_) (fun _ _ z => z) q
        rw [e2]
        have e3 : (S1 ++ [Ob.lst acc]).set S1.length (.lst (acc ++ [v])) = S1 ++ [.lst (acc ++ [v])] := by rw [ss_p0]; rfl
        exact ⟨acc, by rw [sg_p0]; rfl, q1, by rw [e3]; exact hG _, by rw [e3]; exact ih (i + 1) _ (by omega) q2⟩
      | false =>
        rw [if_neg (by decide)] at q ⊢
        exact ⟨hG _, ih (i + 1) acc (by omega) q⟩
  exact key xs.length 0 [] (by omega) h0
theorem lgl {j : Int} {n : Nat} (h : j.natAbs < 2 ^ n) : j.natAbs.log2 ≤ n := by
  by_cases z : j.natAbs = 0
  · rw [z]; exact Nat.zero_le _
  · exact Nat.le_of_lt ((Nat.log2_lt z).mpr h)
theorem bits_lg {i : Int} {n : Nat} (h : Builtin.Int.intBits i ≤ n) : i.natAbs.log2 ≤ n := by
  unfold Builtin.Int.intBits at h
  split at h
  · rename_i z
    have e : i = 0 := by simpa using z
    subst e
    exact Nat.zero_le _
  · omega
theorem ixn {n j : Nat} (hj : j < n) : L2.ixN n (j : Int) = some j := by
  have h2 : (j : Int) < (n : Int) := by omega
  unfold L2.ixN
  simp [h2]
end AM
end

section
set_option linter.all false
set_option maxRecDepth 100000
set_option maxHeartbeats 1000000
/-! Fractions: the defs of shares.py keep their promises. -/
open PySem
namespace AM
def f_divisor : Fn := ⟨["one", "other"], ["one", "other", "rest"],
  (.cons (.set 0 (.abs (.var 0)))
  (.cons (.set 1 (.abs (.var 1)))
  (.cons (.whil (.val (.cmp .ne (.var 1) (.int 0))) (.cons (.set 2 (.bin .mod (.var 0) (.var 1)))
  (.cons (.set 0 (.var 1))
  (.cons (.set 1 (.var 2))
  .nil))))
  (.cons (.ret (.var 0))
  .nil))))⟩
def f_fraction : Fn := ⟨["top", "bottom"], ["top", "bottom", "both"],
  (.cons (.ite (.val (.cmp .eq (.var 1) (.int 0))) (.cons (.raise "NoFraction")
  .nil) .nil)
  (.cons (.set 2 (.call "divisor" (.cons (.var 0) (.cons (.var 1) .nil))))
  (.cons (.ite (.val (.cmp .lt (.var 1) (.int 0))) (.cons (.set 2 (.neg (.var 2)))
  .nil) .nil)
  (.cons (.ret (.tup (.cons (.bin .fdiv (.var 0) (.var 2)) (.cons (.bin .fdiv (.var 1) (.var 2)) .nil))))
  .nil))))⟩
end AM
namespace FR
open PySem AM
local macro_rules | `(tactic| walk_at "am") => `(tactic| try simp only [st_set0, st_setS, iteTrue, iteFalse, iteDec, iteNDec, exSome, exBl, W_var, W_int, W_bl, W_non, W_str, W_tup, W_lst, W_bin, W_neg, W_cmp, W_isN, W_notN, W_lrev, wIsb, wNisb, W_chain, W_tst, W_ite, W_call, W_len, W_abs, W_isi, W_sub, WT_val, WT_not, WT_and, WT_or, WA_one, WA_cons, WO_one, WO_cons, WB_val, WB_not, WB_and, WB_or, WBA_one, WBA_cons, WBO_one, WBO_cons, WL_nil, WL_cons, WS_set, WS_ret, WS_retN, WS_pass, WS_brk, WS_cont, WS_drop, WS_ite, WS_raise, WSs_nil, Ss_set, Ss_ret, Ss_retN, Ss_pass, Ss_brk, Ss_cont, Ss_drop, Ss_raise, Ss_ite_ret, Ss_ite_retN, Ss_ite_raise, Ss_ite_cont, Ss_ite_brk, Ss_ite_last, gt_0, gt_S, wAdd_int, wSub_int, wMul_int, wMul_rep, wDiv_int, wMod_int, wPow_int, wAdd_str, wNeg_int, wAbs_int, wLt_int, wLe_int, wGt_int, wGe_int, wEq_int, wNe_int, wEq_bl, wNe_bl, wEq_str, wNe_str, wLen_tup, wLen_lst, tru_bl, tru_int, ty_int_int, ty_int_bool, ty_int_str, ty_int_tuple, ty_int_list, ty_int_dict, ty_bl_int, ty_bl_bool, ty_bl_str, ty_bl_tuple, ty_bl_list, ty_bl_dict, ty_str_int, ty_str_bool, ty_str_str, ty_str_tuple, ty_str_list, ty_str_dict, ty_tup_int, ty_tup_bool, ty_tup_str, ty_tup_tuple, ty_tup_list, ty_tup_dict, ty_lst_int, ty_lst_bool, ty_lst_str, ty_lst_tuple, ty_lst_list, ty_lst_dict, ty_dct_int, ty_dct_bool, ty_dct_str, ty_dct_tuple, ty_dct_list, ty_dct_dict, ty_non, sub_tup0, sub_tup1, sub_tup2, sub_tup3, sub_tup4, sub_tup5, sub_lst0, sub_lst1, sub_lst2, sub_lst3, sub_lst4, sub_lst5, startA, List.map_cons, List.map_nil, List.length_cons, List.length_nil, List.replicate, List.cons_append, List.nil_append, true_and, and_true, ne_eq, isNon, Bool.not_true, Bool.not_false, Bool.true_or, Bool.or_true, Bool.false_or, reduceIte, Nat.reduceAdd, Nat.zero_add, Int.cast_ofNat_Int, Int.reduceEq, Int.reduceLT, Int.reduceLE, Nat.reduceLeDiff, decide_true, decide_false, not_true_eq_false, not_false_eq_true, Nat.reduceSub, Int.reduceToNat, W_slice, W_blt, W_mth, W_comp, WOe_none, WOe_some, WI_seq, WI_range1, WI_range2, WI_enum, WI_zip, WI_rev, WT0_none, WT0_some, Ss_asg, Ss_setSub, Ss_aug, WS_asg, WS_aug, WS_for, WS_setC, bT_name, bT_tup, bT_lst, bTs_nil, bTs_name, seq_lst, seq_tup, seq_scr, seq_str, seq_loc, lst_lst, lst_scr, lst_loc, exInt, exLoc, exLst, exLst1, exLV_lst, exLV_loc, mOk_app, mOk_pop, mOk_ext, mOk_ins, mOk_ind, mOk_join, mOk_indl, m_append, m_pop, m_extend, m_insert, m_join, b_listL, b_listT, b_listS, b_listK, b_tupL, b_tupT, b_tupK, b_max2, b_min2, b_ord, b_str, sl_lst, sl_loc, sl_scr, sl_tupE, sl_strE, cat_lst, cat_loc, cat_tup, wLen_scr, wLen_loc, wLen_str, wSub_scr, wSub_loc, wSub_str, aug_add, aug_sub, tru_lst, tru_tup, tru_non, ty_scr_list, sg_p0, sg_pl, ss_p0, ss_pl, ob_set0, ob_set1, ob_set2, ob_set3, ob_g0, ob_g1, ob_g2, ob_g3, List.append_assoc, List.length_append, List.nil_append, Nat.add_zero, Nat.add_assoc, Int.reduceNeg, wipeA, orc_run, orc_glob, orc_init, orc_isa, orc_gdct, W_isc, b_intB, W_glob, W_gget, W_fld, W_mcall, W_make, W_make0, W_dsp, Ss_setFld, subO_l, subO_d, lenO_l, lenO_d, listO_l, listO_d, putO_l, keyV_int, keyV_str, wIn_str, wNotin_str, mapSome, at_0, at_1, at_2, at_3, at_4, at_5, ix_1_0, ix_2_0, ix_2_1, ix_3_0, ix_3_1, ix_3_2, ix_4_0, ix_4_1, ix_4_2, ix_4_3, va_s0, va_s1, va_s2, va_s3])
local macro_rules | `(tactic| walk_at "if") => `(tactic| (try simp only []); rw [Ss_ite]; simp only [st_set0, st_setS, iteTrue, iteFalse, iteDec, iteNDec, exSome, exBl, W_var, W_int, W_bl, W_non, W_str, W_tup, W_lst, W_bin, W_neg, W_cmp, W_isN, W_notN, W_lrev, wIsb, wNisb, W_chain, W_tst, W_ite, W_call, W_len, W_abs, W_isi, W_sub, WT_val, WT_not, WT_and, WT_or, WA_one, WA_cons, WO_one, WO_cons, WB_val, WB_not, WB_and, WB_or, WBA_one, WBA_cons, WBO_one, WBO_cons, WL_nil, WL_cons, WS_set, WS_ret, WS_retN, WS_pass, WS_brk, WS_cont, WS_drop, WS_ite, WS_raise, WSs_nil, Ss_set, Ss_ret, Ss_retN, Ss_pass, Ss_brk, Ss_cont, Ss_drop, Ss_raise, Ss_ite_ret, Ss_ite_retN, Ss_ite_raise, Ss_ite_cont, Ss_ite_brk, Ss_ite_last, gt_0, gt_S, wAdd_int, wSub_int, wMul_int, wMul_rep, wDiv_int, wMod_int, wPow_int, wAdd_str, wNeg_int, wAbs_int, wLt_int, wLe_int, wGt_int, wGe_int, wEq_int, wNe_int, wEq_bl, wNe_bl, wEq_str, wNe_str, wLen_tup, wLen_lst, tru_bl, tru_int, ty_int_int, ty_int_bool, ty_int_str, ty_int_tuple, ty_int_list, ty_int_dict, ty_bl_int, ty_bl_bool, ty_bl_str, ty_bl_tuple, ty_bl_list, ty_bl_dict, ty_str_int, ty_str_bool, ty_str_str, ty_str_tuple, ty_str_list, ty_str_dict, ty_tup_int, ty_tup_bool, ty_tup_str, ty_tup_tuple, ty_tup_list, ty_tup_dict, ty_lst_int, ty_lst_bool, ty_lst_str, ty_lst_tuple, ty_lst_list, ty_lst_dict, ty_dct_int, ty_dct_bool, ty_dct_str, ty_dct_tuple, ty_dct_list, ty_dct_dict, ty_non, sub_tup0, sub_tup1, sub_tup2, sub_tup3, sub_tup4, sub_tup5, sub_lst0, sub_lst1, sub_lst2, sub_lst3, sub_lst4, sub_lst5, startA, List.map_cons, List.map_nil, List.length_cons, List.length_nil, List.replicate, List.cons_append, List.nil_append, true_and, and_true, ne_eq, isNon, Bool.not_true, Bool.not_false, Bool.true_or, Bool.or_true, Bool.false_or, reduceIte, Nat.reduceAdd, Nat.zero_add, Int.cast_ofNat_Int, Int.reduceEq, Int.reduceLT, Int.reduceLE, Nat.reduceLeDiff, decide_true, decide_false, not_true_eq_false, not_false_eq_true, Nat.reduceSub, Int.reduceToNat, W_slice, W_blt, W_mth, W_comp, WOe_none, WOe_some, WI_seq, WI_range1, WI_range2, WI_enum, WI_zip, WI_rev, WT0_none, WT0_some, Ss_asg, Ss_setSub, Ss_aug, WS_asg, WS_aug, WS_for, WS_setC, bT_name, bT_tup, bT_lst, bTs_nil, bTs_name, seq_lst, seq_tup, seq_scr, seq_str, seq_loc, lst_lst, lst_scr, lst_loc, exInt, exLoc, exLst, exLst1, exLV_lst, exLV_loc, mOk_app, mOk_pop, mOk_ext, mOk_ins, mOk_ind, mOk_join, mOk_indl, m_append, m_pop, m_extend, m_insert, m_join, b_listL, b_listT, b_listS, b_listK, b_tupL, b_tupT, b_tupK, b_max2, b_min2, b_ord, b_str, sl_lst, sl_loc, sl_scr, sl_tupE, sl_strE, cat_lst, cat_loc, cat_tup, wLen_scr, wLen_loc, wLen_str, wSub_scr, wSub_loc, wSub_str, aug_add, aug_sub, tru_lst, tru_tup, tru_non, ty_scr_list, sg_p0, sg_pl, ss_p0, ss_pl, ob_set0, ob_set1, ob_set2, ob_set3, ob_g0, ob_g1, ob_g2, ob_g3, List.append_assoc, List.length_append, List.nil_append, Nat.add_zero, Nat.add_assoc, Int.reduceNeg, wipeA, orc_run, orc_glob, orc_init, orc_isa, orc_gdct, W_isc, b_intB, W_glob, W_gget, W_fld, W_mcall, W_make, W_make0, W_dsp, Ss_setFld, subO_l, subO_d, lenO_l, lenO_d, listO_l, listO_d, putO_l, keyV_int, keyV_str, wIn_str, wNotin_str, mapSome, at_0, at_1, at_2, at_3, at_4, at_5, ix_1_0, ix_2_0, ix_2_1, ix_3_0, ix_3_1, ix_3_2, ix_4_0, ix_4_1, ix_4_2, ix_4_3, va_s0, va_s1, va_s2, va_s3])
/-! ### sizes -/
def B (n : Nat) (i : Int) : Prop := i.natAbs < 2 ^ n
theorem B.mono {m n : Nat} {i : Int} (h : B m i) (l : m ≤ n) : B n i := Nat.lt_of_lt_of_le h (Nat.pow_le_pow_right (by decide) l)
theorem B.mul {m n : Nat} {i j : Int} (h : B m i) (q : B n j) : B (m + n) (i * j) := by
  unfold B at *
  rw [Int.natAbs_mul, Nat.pow_add]
  exact Nat.mul_lt_mul'' h q
theorem B.add {n : Nat} {i j : Int} (h : B n i) (q : B n j) : B (n + 1) (i + j) := by
  unfold B at *
  rw [Nat.pow_succ]
  omega
theorem B.neg {n : Nat} {i : Int} (h : B n i) : B n (-i) := by
  unfold B at *
  rwa [Int.natAbs_neg]
theorem B.sub {n : Nat} {i j : Int} (h : B n i) (q : B n j) : B (n + 1) (i - j) := by
  rw [Int.sub_eq_add_neg]; exact h.add q.neg
theorem B.abs {n : Nat} {i : Int} (h : B n i) : B n (if i < 0 then -i else i) := by
  split
  · exact h.neg
  · exact h
theorem B.log {n : Nat} {i : Int} (h : B n i) (l : n ≤ 9000) : i.natAbs.log2 < 9000 := by
  by_cases h0 : i.natAbs = 0
  · rw [h0]; decide +kernel
  · exact (Nat.log2_lt h0).mpr (Nat.lt_of_lt_of_le h (Nat.pow_le_pow_right (by decide) l))
theorem B.lg {n : Nat} {i : Int} (h : B n i) : i.natAbs.log2 ≤ n := by
  by_cases h0 : i.natAbs = 0
  · rw [h0]; exact Nat.zero_le _
  · exact Nat.le_of_lt ((Nat.log2_lt h0).mpr h)
theorem B.cmul {m n : Nat} {i j : Int} (h : B m i) (q : B n j) (l : m + n ≤ 133000000) : CMulA i j := by
  have h1 := h.lg
  have h2 := q.lg
  unfold CMulA
  omega
theorem B.of_le {n : Nat} {i j : Int} (h : B n j) (l : i.natAbs ≤ j.natAbs) : B n i := Nat.lt_of_le_of_lt l h
theorem gcd_le {a b : Int} (hb : b ≠ 0) : Int.gcd a b ≤ b.natAbs := Nat.le_of_dvd (by omega) (Int.gcd_dvd_natAbs_right a b)

/-! ### divisor -/
theorem divisor_ok {T : Tab} {f : Str} {d : Fn} (hT : T f = some d) (hd : d.body = f_divisor.body) (hp : d.ps.length = 2) (hN : d.N.length = 3) (k : Nat) (a b : Int) {S : Sto} {P : PV} {E : PX} (h : P (.int (Int.gcd a b)) S) : call T (k + 1) f [.int a, .int b] S P E := by
  refine call_def hT hp.symm ?_
  rw [hd]
  unfold f_divisor
  simp only [startA_eq, hN]
  walk_at "am"
  refine wh_ix (call_mono T k) (fun (z : Int × Int × Option Va) => [some (.int z.1), some (.int z.2.1), z.2.2]) (fun z => 0 ≤ z.1 ∧ 0 ≤ z.2.1 ∧ Int.gcd z.1 z.2.1 = Int.gcd a b) (fun z => z.2.1.toNat) (if a < 0 then -a else a, if b < 0 then -b else b, none) ?_ ?_
  · refine ⟨?_, ?_, ?_⟩
    · show 0 ≤ (if a < 0 then -a else a); split <;> omega
    · show 0 ≤ (if b < 0 then -b else b); split <;> omega
    · show Int.gcd (if a < 0 then -a else a) (if b < 0 then -b else b) = _
      unfold Int.gcd
      have e : ∀ x : Int, (if x < 0 then -x else x).natAbs = x.natAbs := fun x => by split <;> simp
      rw [e, e]
  · rintro ⟨x, y, z⟩ ⟨h1, h2, h3⟩
    walk_at "am"
    simp only at h1 h2 h3
    split
    · rename_i hy
      subst hy
      refine fin_keep ?_
      have : x = ((Int.gcd a b : Nat) : Int) := by
        rw [← h3]; simp; omega
      rw [← this] at h
      exact h
    · rename_i hy
      refine ⟨hy, (y, x.fmod y, _), rfl, ⟨h2, ?_, ?_⟩, ?_⟩
      · rw [Int.fmod_eq_emod_of_nonneg x h2]; exact Int.emod_nonneg x hy
      · rw [← h3, Int.fmod_eq_emod_of_nonneg x h2]
        show Int.gcd y (x % y) = Int.gcd x y
        obtain ⟨m, rfl⟩ := Int.eq_ofNat_of_zero_le h1
        obtain ⟨n, rfl⟩ := Int.eq_ofNat_of_zero_le h2
        have e : ((m : Int) % (n : Int)) = ((m % n : Nat) : Int) := rfl
        rw [e, Int.gcd_natCast_natCast, Int.gcd_natCast_natCast, Nat.gcd_comm m n, Nat.gcd_rec n m, Nat.gcd_comm]
      · show (x.fmod y).toNat < y.toNat
        rw [Int.fmod_eq_emod_of_nonneg x h2]
        have := Int.emod_lt_of_pos x (show 0 < y by omega)
        omega
/-! ### fraction -/
def Qv (r : Rat) : Va := .tup [.int r.num, .int r.den]
theorem shape2 (a b : Int) : SeqAt.shaped (.tuple [.int a, .int b]) = true := by
  simp [SeqAt.shaped, PyData.canLay0, PyData.canLayAll0, PyData.depth, PyData.depthAll]
theorem dv_Q {S : Sto} {r : Rat} : DV S (Qv r) (.tuple [.int r.num, .int r.den]) := .tup (.cons (.int _) (.cons (.int _) .nil))
theorem dv_Q' {S : Sto} {r : Rat} {d : PyData} (h : DV S (Qv r) d) : d = .tuple [.int r.num, .int r.den] := by
  cases h with
  | tup q => cases q with
    | cons a q => cases q with
      | cons b q => cases q; cases a; cases b; rfl
theorem eqv_Q (r q : Rat) : PyData.eqv (.tuple [.int r.num, .int r.den]) (.tuple [.int q.num, .int q.den]) = decide (r = q) := by
  have e : (r = q) ↔ (r.num = q.num ∧ (r.den : Int) = (q.den : Int)) := ⟨fun h => by rw [h]; exact ⟨rfl, rfl⟩, fun h => Rat.ext h.1 (by exact_mod_cast h.2)⟩
  by_cases h : r = q
  · rw [decide_eq_true h]; subst h; simp [PyData.eqv, PyData.eqvAll]
  · rw [decide_eq_false h]
    have e2 := fun z => h (e.mpr z)
    by_cases h1 : r.num = q.num
    · have h2 : ¬ (r.den : Int) = (q.den : Int) := fun z => e2 ⟨h1, z⟩
      have h3 : ¬ r.den = q.den := fun z => h2 (by rw [z])
      simp [PyData.eqv, PyData.eqvAll, h1, h3]
      exact h2
    · simp [PyData.eqv, PyData.eqvAll, h1]
theorem eqQ {S : Sto} {P : PV} {r q : Rat} : wCmp .eq (Qv r) (Qv q) S P = P (.bl (decide (r = q))) S := by
  apply propext
  simp only [wCmp]
  constructor
  · rintro ((⟨h, _⟩ | ⟨⟨ks, ls, h, _⟩, _⟩) | ⟨d, e, h1, h2, _, _, h⟩)
    · cases h
    · rcases h with h | ⟨k, h, _⟩ <;> cases h
    · rw [dv_Q' h1, dv_Q' h2, eqv_Q] at h; exact h
  · exact fun h => .inr ⟨_, _, dv_Q, dv_Q, shape2 _ _, shape2 _ _, by rw [eqv_Q]; exact h⟩
theorem neQ {S : Sto} {P : PV} {r q : Rat} : wCmp .ne (Qv r) (Qv q) S P = P (.bl (!decide (r = q))) S := by
  apply propext
  simp only [wCmp]
  constructor
  · rintro ((⟨h, _⟩ | ⟨⟨ks, ls, h, _⟩, _⟩) | ⟨d, e, h1, h2, _, _, h⟩)
    · cases h
    · rcases h with h | ⟨k, h, _⟩ <;> cases h
    · rw [dv_Q' h1, dv_Q' h2, eqv_Q] at h; exact h
  · exact fun h => .inr ⟨_, _, dv_Q, dv_Q, shape2 _ _, shape2 _ _, by rw [eqv_Q]; exact h⟩
theorem divInt_num (a b : Int) (hb : b ≠ 0) : a.fdiv (if b < 0 then -(Int.gcd a b : Int) else (Int.gcd a b : Int)) = (Rat.divInt a b).num := by
  rw [Rat.num_divInt, Int.gcd_comm b a]
  obtain ⟨c, hc⟩ := Int.gcd_dvd_left (a := a) (b := b)
  have hg : (Int.gcd a b : Int) ≠ 0 := by
    intro z
    have z' : Int.gcd a b = 0 := by exact_mod_cast z
    rw [Int.gcd_eq_zero_iff] at z'
    exact hb z'.2
  generalize hG : (Int.gcd a b : Int) = g at *
  have gp : 0 < g := by
    have : 0 ≤ g := by rw [← hG]; exact Int.natCast_nonneg _
    omega
  rw [hc]
  by_cases h : b < 0
  · rw [if_pos h, Int.sign_eq_neg_one_of_neg h]
    have e1 : g * c = (-g) * (-c) := by rw [Int.neg_mul_neg]
    have e2 : (-1 : Int) * (g * c) = g * (-c) := by rw [Int.mul_neg]; omega
    rw [e2, Int.mul_ediv_cancel_left _ hg]
    rw [e1, Int.mul_fdiv_cancel_left _ (by omega)]
  · have hb' : 0 < b := by omega
    rw [if_neg h, Int.sign_eq_one_of_pos hb', Int.one_mul, Int.mul_ediv_cancel_left _ hg, Int.mul_fdiv_cancel_left _ hg]
theorem divInt_den (a b : Int) (hb : b ≠ 0) : b.fdiv (if b < 0 then -(Int.gcd a b : Int) else (Int.gcd a b : Int)) = ((Rat.divInt a b).den : Int) := by
  rw [Rat.den_divInt, if_neg hb, Int.gcd_comm b a]
  obtain ⟨c, hc⟩ := Int.gcd_dvd_right (a := a) (b := b)
  have hg : (Int.gcd a b : Int) ≠ 0 := by
    intro z
    have z' : Int.gcd a b = 0 := by exact_mod_cast z
    rw [Int.gcd_eq_zero_iff] at z'
    exact hb z'.2
  rw [Int.natCast_ediv]
  generalize hG : (Int.gcd a b : Int) = g at *
  have gp : 0 < g := by
    have : 0 ≤ g := by rw [← hG]; exact Int.natCast_nonneg _
    omega
  by_cases h : b < 0
  · have e3 : ((b.natAbs : Nat) : Int) = g * (-c) := by rw [Int.mul_neg, ← hc]; omega
    rw [if_pos h, e3, Int.mul_ediv_cancel_left _ hg]
    have e1 : b = (-g) * (-c) := by rw [Int.neg_mul_neg]; exact hc
    rw [e1, Int.mul_fdiv_cancel_left _ (by omega)]
  · have e3 : ((b.natAbs : Nat) : Int) = g * c := by rw [← hc]; omega
    rw [if_neg h, e3, Int.mul_ediv_cancel_left _ hg]
    have e1 : b = g * c := hc
    rw [e1, Int.mul_fdiv_cancel_left _ hg]
theorem fraction_ok {T : Tab} (h1 : T "divisor" = some f_divisor) (h2 : T "fraction" = some f_fraction) (k : Nat) (a b : Int) (hb : b ≠ 0) {n : Nat} (hs : B n b) (hn : n ≤ 9000) {S : Sto} {P : PV} {E : PX}
    (h : P (Qv (Rat.divInt a b)) S) : call T (k + 2) "fraction" [.int a, .int b] S P E := by
  refine call_def h2 rfl ?_
  unfold f_fraction
  walk_at "am"
  rw [if_neg hb]
  refine divisor_ok h1 rfl rfl rfl k a b ?_
  walk_at "if"
  have hg : Int.gcd a b ≠ 0 := by
    intro z
    rw [Int.gcd_eq_zero_iff] at z
    exact hb z.2
  have key : CDivA (if b < 0 then -(Int.gcd a b : Int) else (Int.gcd a b : Int)) := by
    refine ⟨by split <;> omega, B.log (n := n) (hs.of_le ?_) hn⟩
    have := gcd_le (a := a) hb
    split <;> simp <;> exact this
  have e1 := divInt_num a b hb
  have e2 := divInt_den a b hb
  split
  · rename_i hl
    rw [if_pos hl] at key e1 e2
    refine ⟨key, key, fin_keep ?_⟩
    rw [e1, e2]; exact h
  · rename_i hl
    rw [if_neg hl] at key e1 e2
    refine ⟨key, key, fin_keep ?_⟩
    rw [e1, e2]; exact h
/-! ### of a fraction's parts -/
theorem divInt_B {a b : Int} {n : Nat} (ha : B n a) (hb : B n b) (h0 : b ≠ 0) : B n (Rat.divInt a b).num ∧ B n ((Rat.divInt a b).den : Int) := by
  refine ⟨?_, ?_⟩
  · refine ha.of_le ?_
    rw [Rat.num_divInt]
    refine Nat.le_trans (Int.natAbs_ediv_le_natAbs _ _) ?_
    rw [Int.natAbs_mul, Int.natAbs_sign_of_ne_zero h0, Nat.one_mul]
    exact Nat.le_refl _
  · refine hb.of_le ?_
    rw [Rat.den_divInt, if_neg h0]
    exact Nat.div_le_self _ _
theorem den_ne (r : Rat) : (r.den : Int) ≠ 0 := by
  have := r.den_pos
  omega
theorem divInt_cross {a b : Int} (h0 : b ≠ 0) : (Rat.divInt a b).num * b = a * (Rat.divInt a b).den := by
  have h := Rat.num_divInt_den (Rat.divInt a b)
  exact (Rat.divInt_eq_divInt_iff (den_ne _) h0).mp h
end FR
end

section
set_option linter.all false
set_option maxRecDepth 100000
set_option maxHeartbeats 1000000
/-! The laws' own small defs. -/
open PySem
namespace AM
def f_l_cell_at : Fn := ⟨["_law_script", "_law_k"], ["_law_script", "_law_k"],
  (.cons (.ite (.val (.cmp .lt (.var 1) (.len (.var 0)))) (.cons (.ret (.sub (.var 0) (.var 1)))
  .nil) .nil)
  (.cons (.ret (.int 0))
  .nil))⟩
def f_l_whole : Fn := ⟨["_law_found"], ["_law_found"],
  (.cons (.ret (.tst (.and (.cons (.val (.isi (.var 0) .int)) (.one (.not (.val (.isi (.var 0) .bool))))))))
  .nil)⟩
def f_l_signed : Fn := ⟨["_law_cell", "_law_most"], ["_law_cell", "_law_most"],
  (.cons (.ite (.val (.cmp .eq (.bin .mod (.var 0) (.int 2)) (.int 1))) (.cons (.ret (.neg (.bin .mod (.bin .fdiv (.var 0) (.int 2)) (.var 1))))
  .nil) .nil)
  (.cons (.ret (.bin .mod (.bin .fdiv (.var 0) (.int 2)) (.var 1)))
  .nil))⟩
def f_l_is_fraction : Fn := ⟨["_law_found"], ["_law_found"],
  (.cons (.ite (.or (.cons (.not (.val (.isi (.var 0) .tuple))) (.one (.val (.cmp .ne (.len (.var 0)) (.int 2)))))) (.cons (.ret (.bl false))
  .nil) .nil)
  (.cons (.ite (.or (.cons (.not (.val (.call "_law_whole" (.cons (.sub (.var 0) (.int 0)) .nil)))) (.one (.not (.val (.call "_law_whole" (.cons (.sub (.var 0) (.int 1)) .nil))))))) (.cons (.ret (.bl false))
  .nil) .nil)
  (.cons (.ret (.tst (.and (.cons (.val (.cmp .ge (.sub (.var 0) (.int 1)) (.int 1))) (.one (.val (.cmp .eq (.call "_law_divisor" (.cons (.sub (.var 0) (.int 0)) (.cons (.sub (.var 0) (.int 1)) .nil))) (.int 1))))))))
  .nil)))⟩
end AM
namespace FR
open PySem AM
local macro_rules | `(tactic| walk_at "am") => `(tactic| try simp only [st_set0, st_setS, iteTrue, iteFalse, iteDec, iteNDec, exSome, exBl, W_var, W_int, W_bl, W_non, W_str, W_tup, W_lst, W_bin, W_neg, W_cmp, W_isN, W_notN, W_lrev, wIsb, wNisb, W_chain, W_tst, W_ite, W_call, W_len, W_abs, W_isi, W_sub, WT_val, WT_not, WT_and, WT_or, WA_one, WA_cons, WO_one, WO_cons, WB_val, WB_not, WB_and, WB_or, WBA_one, WBA_cons, WBO_one, WBO_cons, WL_nil, WL_cons, WS_set, WS_ret, WS_retN, WS_pass, WS_brk, WS_cont, WS_drop, WS_ite, WS_raise, WSs_nil, Ss_set, Ss_ret, Ss_retN, Ss_pass, Ss_brk, Ss_cont, Ss_drop, Ss_raise, Ss_ite_ret, Ss_ite_retN, Ss_ite_raise, Ss_ite_cont, Ss_ite_brk, Ss_ite_last, gt_0, gt_S, wAdd_int, wSub_int, wMul_int, wMul_rep, wDiv_int, wMod_int, wPow_int, wAdd_str, wNeg_int, wAbs_int, wLt_int, wLe_int, wGt_int, wGe_int, wEq_int, wNe_int, wEq_bl, wNe_bl, wEq_str, wNe_str, wLen_tup, wLen_lst, tru_bl, tru_int, ty_int_int, ty_int_bool, ty_int_str, ty_int_tuple, ty_int_list, ty_int_dict, ty_bl_int, ty_bl_bool, ty_bl_str, ty_bl_tuple, ty_bl_list, ty_bl_dict, ty_str_int, ty_str_bool, ty_str_str, ty_str_tuple, ty_str_list, ty_str_dict, ty_tup_int, ty_tup_bool, ty_tup_str, ty_tup_tuple, ty_tup_list, ty_tup_dict, ty_lst_int, ty_lst_bool, ty_lst_str, ty_lst_tuple, ty_lst_list, ty_lst_dict, ty_dct_int, ty_dct_bool, ty_dct_str, ty_dct_tuple, ty_dct_list, ty_dct_dict, ty_non, sub_tup0, sub_tup1, sub_tup2, sub_tup3, sub_tup4, sub_tup5, sub_lst0, sub_lst1, sub_lst2, sub_lst3, sub_lst4, sub_lst5, startA, List.map_cons, List.map_nil, List.length_cons, List.length_nil, List.replicate, List.cons_append, List.nil_append, true_and, and_true, ne_eq, isNon, Bool.not_true, Bool.not_false, Bool.true_or, Bool.or_true, Bool.false_or, reduceIte, Nat.reduceAdd, Nat.zero_add, Int.cast_ofNat_Int, Int.reduceEq, Int.reduceLT, Int.reduceLE, Nat.reduceLeDiff, decide_true, decide_false, not_true_eq_false, not_false_eq_true, Nat.reduceSub, Int.reduceToNat, W_slice, W_blt, W_mth, W_comp, WOe_none, WOe_some, WI_seq, WI_range1, WI_range2, WI_enum, WI_zip, WI_rev, WT0_none, WT0_some, Ss_asg, Ss_setSub, Ss_aug, WS_asg, WS_aug, WS_for, WS_setC, bT_name, bT_tup, bT_lst, bTs_nil, bTs_name, seq_lst, seq_tup, seq_scr, seq_str, seq_loc, lst_lst, lst_scr, lst_loc, exInt, exLoc, exLst, exLst1, exLV_lst, exLV_loc, mOk_app, mOk_pop, mOk_ext, mOk_ins, mOk_ind, mOk_join, mOk_indl, m_append, m_pop, m_extend, m_insert, m_join, b_listL, b_listT, b_listS, b_listK, b_tupL, b_tupT, b_tupK, b_max2, b_min2, b_ord, b_str, sl_lst, sl_loc, sl_scr, sl_tupE, sl_strE, cat_lst, cat_loc, cat_tup, wLen_scr, wLen_loc, wLen_str, wSub_scr, wSub_loc, wSub_str, aug_add, aug_sub, tru_lst, tru_tup, tru_non, ty_scr_list, sg_p0, sg_pl, ss_p0, ss_pl, ob_set0, ob_set1, ob_set2, ob_set3, ob_g0, ob_g1, ob_g2, ob_g3, List.append_assoc, List.length_append, List.nil_append, Nat.add_zero, Nat.add_assoc, Int.reduceNeg, wipeA, orc_run, orc_glob, orc_init, orc_isa, orc_gdct, W_isc, b_intB, W_glob, W_gget, W_fld, W_mcall, W_make, W_make0, W_dsp, Ss_setFld, subO_l, subO_d, lenO_l, lenO_d, listO_l, listO_d, putO_l, keyV_int, keyV_str, wIn_str, wNotin_str, mapSome, at_0, at_1, at_2, at_3, at_4, at_5, ix_1_0, ix_2_0, ix_2_1, ix_3_0, ix_3_1, ix_3_2, ix_4_0, ix_4_1, ix_4_2, ix_4_3, va_s0, va_s1, va_s2, va_s3])
local macro_rules | `(tactic| walk_at "if") => `(tactic| (try simp only []); rw [Ss_ite]; simp only [st_set0, st_setS, iteTrue, iteFalse, iteDec, iteNDec, exSome, exBl, W_var, W_int, W_bl, W_non, W_str, W_tup, W_lst, W_bin, W_neg, W_cmp, W_isN, W_notN, W_lrev, wIsb, wNisb, W_chain, W_tst, W_ite, W_call, W_len, W_abs, W_isi, W_sub, WT_val, WT_not, WT_and, WT_or, WA_one, WA_cons, WO_one, WO_cons, WB_val, WB_not, WB_and, WB_or, WBA_one, WBA_cons, WBO_one, WBO_cons, WL_nil, WL_cons, WS_set, WS_ret, WS_retN, WS_pass, WS_brk, WS_cont, WS_drop, WS_ite, WS_raise, WSs_nil, Ss_set, Ss_ret, Ss_retN, Ss_pass, Ss_brk, Ss_cont, Ss_drop, Ss_raise, Ss_ite_ret, Ss_ite_retN, Ss_ite_raise, Ss_ite_cont, Ss_ite_brk, Ss_ite_last, gt_0, gt_S, wAdd_int, wSub_int, wMul_int, wMul_rep, wDiv_int, wMod_int, wPow_int, wAdd_str, wNeg_int, wAbs_int, wLt_int, wLe_int, wGt_int, wGe_int, wEq_int, wNe_int, wEq_bl, wNe_bl, wEq_str, wNe_str, wLen_tup, wLen_lst, tru_bl, tru_int, ty_int_int, ty_int_bool, ty_int_str, ty_int_tuple, ty_int_list, ty_int_dict, ty_bl_int, ty_bl_bool, ty_bl_str, ty_bl_tuple, ty_bl_list, ty_bl_dict, ty_str_int, ty_str_bool, ty_str_str, ty_str_tuple, ty_str_list, ty_str_dict, ty_tup_int, ty_tup_bool, ty_tup_str, ty_tup_tuple, ty_tup_list, ty_tup_dict, ty_lst_int, ty_lst_bool, ty_lst_str, ty_lst_tuple, ty_lst_list, ty_lst_dict, ty_dct_int, ty_dct_bool, ty_dct_str, ty_dct_tuple, ty_dct_list, ty_dct_dict, ty_non, sub_tup0, sub_tup1, sub_tup2, sub_tup3, sub_tup4, sub_tup5, sub_lst0, sub_lst1, sub_lst2, sub_lst3, sub_lst4, sub_lst5, startA, List.map_cons, List.map_nil, List.length_cons, List.length_nil, List.replicate, List.cons_append, List.nil_append, true_and, and_true, ne_eq, isNon, Bool.not_true, Bool.not_false, Bool.true_or, Bool.or_true, Bool.false_or, reduceIte, Nat.reduceAdd, Nat.zero_add, Int.cast_ofNat_Int, Int.reduceEq, Int.reduceLT, Int.reduceLE, Nat.reduceLeDiff, decide_true, decide_false, not_true_eq_false, not_false_eq_true, Nat.reduceSub, Int.reduceToNat, W_slice, W_blt, W_mth, W_comp, WOe_none, WOe_some, WI_seq, WI_range1, WI_range2, WI_enum, WI_zip, WI_rev, WT0_none, WT0_some, Ss_asg, Ss_setSub, Ss_aug, WS_asg, WS_aug, WS_for, WS_setC, bT_name, bT_tup, bT_lst, bTs_nil, bTs_name, seq_lst, seq_tup, seq_scr, seq_str, seq_loc, lst_lst, lst_scr, lst_loc, exInt, exLoc, exLst, exLst1, exLV_lst, exLV_loc, mOk_app, mOk_pop, mOk_ext, mOk_ins, mOk_ind, mOk_join, mOk_indl, m_append, m_pop, m_extend, m_insert, m_join, b_listL, b_listT, b_listS, b_listK, b_tupL, b_tupT, b_tupK, b_max2, b_min2, b_ord, b_str, sl_lst, sl_loc, sl_scr, sl_tupE, sl_strE, cat_lst, cat_loc, cat_tup, wLen_scr, wLen_loc, wLen_str, wSub_scr, wSub_loc, wSub_str, aug_add, aug_sub, tru_lst, tru_tup, tru_non, ty_scr_list, sg_p0, sg_pl, ss_p0, ss_pl, ob_set0, ob_set1, ob_set2, ob_set3, ob_g0, ob_g1, ob_g2, ob_g3, List.append_assoc, List.length_append, List.nil_append, Nat.add_zero, Nat.add_assoc, Int.reduceNeg, wipeA, orc_run, orc_glob, orc_init, orc_isa, orc_gdct, W_isc, b_intB, W_glob, W_gget, W_fld, W_mcall, W_make, W_make0, W_dsp, Ss_setFld, subO_l, subO_d, lenO_l, lenO_d, listO_l, listO_d, putO_l, keyV_int, keyV_str, wIn_str, wNotin_str, mapSome, at_0, at_1, at_2, at_3, at_4, at_5, ix_1_0, ix_2_0, ix_2_1, ix_3_0, ix_3_1, ix_3_2, ix_4_0, ix_4_1, ix_4_2, ix_4_3, va_s0, va_s1, va_s2, va_s3])
def cl (ns : List Int) (i : Int) : Int := ns.getD i.toNat 0
theorem cell_ok {T : Tab} {f : Str} {d : Fn} (hT : T f = some d) (hd : d.body = f_l_cell_at.body) (hp : d.ps.length = 2) (hN : d.N.length = 2) (k : Nat) (ns : List Int) (i : Int) (hi : 0 ≤ i) {S : Sto} {P : PV} {E : PX}
    (h : P (.int (cl ns i)) S) : call T (k + 1) f [.scr ns, .int i] S P E := by
  refine call_def hT hp.symm ?_
  rw [hd]
  unfold f_l_cell_at
  simp only [startA_eq, hN]
  walk_at "am"
  obtain ⟨n, rfl⟩ := Int.eq_ofNat_of_zero_le hi
  unfold cl at h
  split
  · rename_i hl
    have hl' : n < ns.length := by omega
    refine ⟨ns[n], L2.atI_nat (by simp [hl']), fin_keep ?_⟩
    have e : ns.getD (n : Int).toNat 0 = ns[n] := by simp [hl']
    rw [e] at h
    exact h
  · rename_i hl
    have e : ns.getD (n : Int).toNat 0 = 0 := by
      rw [List.getD_eq_getElem?_getD, List.getElem?_eq_none (by simp; omega)]; rfl
    rw [e] at h
    exact fin_keep h
/-- below nought for an odd cell -/
def sg (c m : Int) : Int := if c.fmod 2 = 1 then -((c.fdiv 2).fmod m) else (c.fdiv 2).fmod m
theorem cdiv_small {j : Int} (h0 : j ≠ 0) (h : j.natAbs < 2 ^ 200) : CDivA j := ⟨h0, B.log (n := 200) h (by decide)⟩
theorem signed_ok {T : Tab} {f : Str} {d : Fn} (hT : T f = some d) (hd : d.body = f_l_signed.body) (hp : d.ps.length = 2) (hN : d.N.length = 2) (k : Nat) (c m : Int) (hm : m ≠ 0) {S : Sto} {P : PV} {E : PX}
    (h : P (.int (sg c m)) S) : call T (k + 1) f [.int c, .int m] S P E := by
  refine call_def hT hp.symm ?_
  rw [hd]
  unfold f_l_signed
  simp only [startA_eq, hN]
  walk_at "am"
  have h2 : CDivA 2 := cdiv_small (by decide) (by decide)
  unfold sg at h
  split
  · rename_i e
    rw [if_pos e] at h
    exact ⟨h2, hm, fin_keep h⟩
  · rename_i e
    rw [if_neg e] at h
    exact ⟨h2, hm, fin_keep h⟩
theorem sg_lt (c m : Int) (hm : 0 < m) : (sg c m).natAbs < m.natAbs := by
  have h1 := Int.fmod_eq_emod_of_nonneg (c.fdiv 2) (show 0 ≤ m by omega)
  have h2 := Int.emod_nonneg (c.fdiv 2) (show m ≠ 0 by omega)
  have h3 := Int.emod_lt_of_pos (c.fdiv 2) hm
  unfold sg
  split <;> omega
/-- whole: of whole numbers -/
theorem whole_ok {T : Tab} {f : Str} {d : Fn} (hT : T f = some d) (hd : d.body = f_l_whole.body) (hp : d.ps.length = 1) (hN : d.N.length = 1) (k : Nat) (i : Int) {S : Sto} {P : PV} {E : PX}
    (h : P (.bl true) S) : call T (k + 1) f [.int i] S P E := by
  refine call_def hT hp.symm ?_
  rw [hd]
  unfold f_l_whole
  simp only [startA_eq, hN]
  walk_at "am"
  exact fin_keep h
theorem rat_gcd (r : Rat) : Int.gcd r.num (r.den : Int) = 1 := by
  have := r.reduced
  unfold Nat.Coprime at this
  unfold Int.gcd
  simpa using this
theorem isfrac_ok {T : Tab} {f : Str} {d e1 e2 : Fn} (hT : T f = some d) (hd : d.body = f_l_is_fraction.body) (hp : d.ps.length = 1) (hN : d.N.length = 1)
    (w1 : T "_law_whole" = some e1) (w2 : e1.body = f_l_whole.body) (w3 : e1.ps.length = 1) (w4 : e1.N.length = 1) (v1 : T "_law_divisor" = some e2) (v2 : e2.body = f_divisor.body) (v3 : e2.ps.length = 2) (v4 : e2.N.length = 3)
    (k : Nat) (r : Rat) {S : Sto} {P : PV} {E : PX} (h : P (.bl true) S) : call T (k + 2) f [Qv r] S P E := by
  refine call_def hT hp.symm ?_
  rw [hd]
  unfold f_l_is_fraction Qv
  simp only [startA_eq, hN]
  walk_at "am"
  have hpos : (1 : Int) ≤ (r.den : Int) := by
    have := r.den_pos
    omega
  refine whole_ok w1 w2 w3 w4 k _ ?_
  walk_at "am"
  refine whole_ok w1 w2 w3 w4 k _ ?_
  walk_at "am"
  rw [if_pos hpos]
  refine divisor_ok v1 v2 v3 v4 k _ _ ?_
  walk_at "am"
  rw [rat_gcd]
  exact fin_keep h
end FR
end

section
set_option linter.all false
set_option maxRecDepth 100000
set_option maxHeartbeats 1000000
/-! Sums, products, quotients, bounds of fractions. -/
open PySem
namespace AM
def f_plus : Fn := ⟨["one", "other"], ["one", "other"],
  (.cons (.ret (.call "fraction" (.cons (.bin .add (.bin .mul (.sub (.var 0) (.int 0)) (.sub (.var 1) (.int 1))) (.bin .mul (.sub (.var 1) (.int 0)) (.sub (.var 0) (.int 1)))) (.cons (.bin .mul (.sub (.var 0) (.int 1)) (.sub (.var 1) (.int 1))) .nil))))
  .nil)⟩
def f_minus : Fn := ⟨["one", "other"], ["one", "other"],
  (.cons (.ret (.call "fraction" (.cons (.bin .sub (.bin .mul (.sub (.var 0) (.int 0)) (.sub (.var 1) (.int 1))) (.bin .mul (.sub (.var 1) (.int 0)) (.sub (.var 0) (.int 1)))) (.cons (.bin .mul (.sub (.var 0) (.int 1)) (.sub (.var 1) (.int 1))) .nil))))
  .nil)⟩
def f_times : Fn := ⟨["one", "other"], ["one", "other"],
  (.cons (.ret (.call "fraction" (.cons (.bin .mul (.sub (.var 0) (.int 0)) (.sub (.var 1) (.int 0))) (.cons (.bin .mul (.sub (.var 0) (.int 1)) (.sub (.var 1) (.int 1))) .nil))))
  .nil)⟩
def f_over : Fn := ⟨["one", "other"], ["one", "other"],
  (.cons (.ite (.val (.cmp .eq (.sub (.var 1) (.int 0)) (.int 0))) (.cons (.raise "NoFraction")
  .nil) .nil)
  (.cons (.ret (.call "fraction" (.cons (.bin .mul (.sub (.var 0) (.int 0)) (.sub (.var 1) (.int 1))) (.cons (.bin .mul (.sub (.var 0) (.int 1)) (.sub (.var 1) (.int 0))) .nil))))
  .nil))⟩
def f_less : Fn := ⟨["one", "other"], ["one", "other"],
  (.cons (.ret (.cmp .lt (.bin .mul (.sub (.var 0) (.int 0)) (.sub (.var 1) (.int 1))) (.bin .mul (.sub (.var 1) (.int 0)) (.sub (.var 0) (.int 1)))))
  .nil)⟩
def f_held : Fn := ⟨["one", "low", "high"], ["one", "low", "high"],
  (.cons (.ite (.and (.cons (.val (.notN (.var 2))) (.one (.val (.call "less" (.cons (.var 2) (.cons (.var 1) .nil))))))) (.cons (.set 2 (.var 1))
  .nil) .nil)
  (.cons (.ite (.val (.call "less" (.cons (.var 0) (.cons (.var 1) .nil)))) (.cons (.ret (.var 1))
  .nil) .nil)
  (.cons (.ite (.and (.cons (.val (.notN (.var 2))) (.one (.val (.call "less" (.cons (.var 2) (.cons (.var 0) .nil))))))) (.cons (.ret (.var 2))
  .nil) .nil)
  (.cons (.ret (.var 0))
  .nil))))⟩
end AM
namespace FR
open PySem AM
local macro_rules | `(tactic| walk_at "am") => `(tactic| try simp only [st_set0, st_setS, iteTrue, iteFalse, iteDec, iteNDec, exSome, exBl, W_var, W_int, W_bl, W_non, W_str, W_tup, W_lst, W_bin, W_neg, W_cmp, W_isN, W_notN, W_lrev, wIsb, wNisb, W_chain, W_tst, W_ite, W_call, W_len, W_abs, W_isi, W_sub, WT_val, WT_not, WT_and, WT_or, WA_one, WA_cons, WO_one, WO_cons, WB_val, WB_not, WB_and, WB_or, WBA_one, WBA_cons, WBO_one, WBO_cons, WL_nil, WL_cons, WS_set, WS_ret, WS_retN, WS_pass, WS_brk, WS_cont, WS_drop, WS_ite, WS_raise, WSs_nil, Ss_set, Ss_ret, Ss_retN, Ss_pass, Ss_brk, Ss_cont, Ss_drop, Ss_raise, Ss_ite_ret, Ss_ite_retN, Ss_ite_raise, Ss_ite_cont, Ss_ite_brk, Ss_ite_last, gt_0, gt_S, wAdd_int, wSub_int, wMul_int, wMul_rep, wDiv_int, wMod_int, wPow_int, wAdd_str, wNeg_int, wAbs_int, wLt_int, wLe_int, wGt_int, wGe_int, wEq_int, wNe_int, wEq_bl, wNe_bl, wEq_str, wNe_str, wLen_tup, wLen_lst, tru_bl, tru_int, ty_int_int, ty_int_bool, ty_int_str, ty_int_tuple, ty_int_list, ty_int_dict, ty_bl_int, ty_bl_bool, ty_bl_str, ty_bl_tuple, ty_bl_list, ty_bl_dict, ty_str_int, ty_str_bool, ty_str_str, ty_str_tuple, ty_str_list, ty_str_dict, ty_tup_int, ty_tup_bool, ty_tup_str, ty_tup_tuple, ty_tup_list, ty_tup_dict, ty_lst_int, ty_lst_bool, ty_lst_str, ty_lst_tuple, ty_lst_list, ty_lst_dict, ty_dct_int, ty_dct_bool, ty_dct_str, ty_dct_tuple, ty_dct_list, ty_dct_dict, ty_non, sub_tup0, sub_tup1, sub_tup2, sub_tup3, sub_tup4, sub_tup5, sub_lst0, sub_lst1, sub_lst2, sub_lst3, sub_lst4, sub_lst5, startA, List.map_cons, List.map_nil, List.length_cons, List.length_nil, List.replicate, List.cons_append, List.nil_append, true_and, and_true, ne_eq, isNon, Bool.not_true, Bool.not_false, Bool.true_or, Bool.or_true, Bool.false_or, reduceIte, Nat.reduceAdd, Nat.zero_add, Int.cast_ofNat_Int, Int.reduceEq, Int.reduceLT, Int.reduceLE, Nat.reduceLeDiff, decide_true, decide_false, not_true_eq_false, not_false_eq_true, Nat.reduceSub, Int.reduceToNat, W_slice, W_blt, W_mth, W_comp, WOe_none, WOe_some, WI_seq, WI_range1, WI_range2, WI_enum, WI_zip, WI_rev, WT0_none, WT0_some, Ss_asg, Ss_setSub, Ss_aug, WS_asg, WS_aug, WS_for, WS_setC, bT_name, bT_tup, bT_lst, bTs_nil, bTs_name, seq_lst, seq_tup, seq_scr, seq_str, seq_loc, lst_lst, lst_scr, lst_loc, exInt, exLoc, exLst, exLst1, exLV_lst, exLV_loc, mOk_app, mOk_pop, mOk_ext, mOk_ins, mOk_ind, mOk_join, mOk_indl, m_append, m_pop, m_extend, m_insert, m_join, b_listL, b_listT, b_listS, b_listK, b_tupL, b_tupT, b_tupK, b_max2, b_min2, b_ord, b_str, sl_lst, sl_loc, sl_scr, sl_tupE, sl_strE, cat_lst, cat_loc, cat_tup, wLen_scr, wLen_loc, wLen_str, wSub_scr, wSub_loc, wSub_str, aug_add, aug_sub, tru_lst, tru_tup, tru_non, ty_scr_list, sg_p0, sg_pl, ss_p0, ss_pl, ob_set0, ob_set1, ob_set2, ob_set3, ob_g0, ob_g1, ob_g2, ob_g3, List.append_assoc, List.length_append, List.nil_append, Nat.add_zero, Nat.add_assoc, Int.reduceNeg, wipeA, orc_run, orc_glob, orc_init, orc_isa, orc_gdct, W_isc, b_intB, W_glob, W_gget, W_fld, W_mcall, W_make, W_make0, W_dsp, Ss_setFld, subO_l, subO_d, lenO_l, lenO_d, listO_l, listO_d, putO_l, keyV_int, keyV_str, wIn_str, wNotin_str, mapSome, at_0, at_1, at_2, at_3, at_4, at_5, ix_1_0, ix_2_0, ix_2_1, ix_3_0, ix_3_1, ix_3_2, ix_4_0, ix_4_1, ix_4_2, ix_4_3, va_s0, va_s1, va_s2, va_s3])
local macro_rules | `(tactic| walk_at "if") => `(tactic| (try simp only []); rw [Ss_ite]; simp only [st_set0, st_setS, iteTrue, iteFalse, iteDec, iteNDec, exSome, exBl, W_var, W_int, W_bl, W_non, W_str, W_tup, W_lst, W_bin, W_neg, W_cmp, W_isN, W_notN, W_lrev, wIsb, wNisb, W_chain, W_tst, W_ite, W_call, W_len, W_abs, W_isi, W_sub, WT_val, WT_not, WT_and, WT_or, WA_one, WA_cons, WO_one, WO_cons, WB_val, WB_not, WB_and, WB_or, WBA_one, WBA_cons, WBO_one, WBO_cons, WL_nil, WL_cons, WS_set, WS_ret, WS_retN, WS_pass, WS_brk, WS_cont, WS_drop, WS_ite, WS_raise, WSs_nil, Ss_set, Ss_ret, Ss_retN, Ss_pass, Ss_brk, Ss_cont, Ss_drop, Ss_raise, Ss_ite_ret, Ss_ite_retN, Ss_ite_raise, Ss_ite_cont, Ss_ite_brk, Ss_ite_last, gt_0, gt_S, wAdd_int, wSub_int, wMul_int, wMul_rep, wDiv_int, wMod_int, wPow_int, wAdd_str, wNeg_int, wAbs_int, wLt_int, wLe_int, wGt_int, wGe_int, wEq_int, wNe_int, wEq_bl, wNe_bl, wEq_str, wNe_str, wLen_tup, wLen_lst, tru_bl, tru_int, ty_int_int, ty_int_bool, ty_int_str, ty_int_tuple, ty_int_list, ty_int_dict, ty_bl_int, ty_bl_bool, ty_bl_str, ty_bl_tuple, ty_bl_list, ty_bl_dict, ty_str_int, ty_str_bool, ty_str_str, ty_str_tuple, ty_str_list, ty_str_dict, ty_tup_int, ty_tup_bool, ty_tup_str, ty_tup_tuple, ty_tup_list, ty_tup_dict, ty_lst_int, ty_lst_bool, ty_lst_str, ty_lst_tuple, ty_lst_list, ty_lst_dict, ty_dct_int, ty_dct_bool, ty_dct_str, ty_dct_tuple, ty_dct_list, ty_dct_dict, ty_non, sub_tup0, sub_tup1, sub_tup2, sub_tup3, sub_tup4, sub_tup5, sub_lst0, sub_lst1, sub_lst2, sub_lst3, sub_lst4, sub_lst5, startA, List.map_cons, List.map_nil, List.length_cons, List.length_nil, List.replicate, List.cons_append, List.nil_append, true_and, and_true, ne_eq, isNon, Bool.not_true, Bool.not_false, Bool.true_or, Bool.or_true, Bool.false_or, reduceIte, Nat.reduceAdd, Nat.zero_add, Int.cast_ofNat_Int, Int.reduceEq, Int.reduceLT, Int.reduceLE, Nat.reduceLeDiff, decide_true, decide_false, not_true_eq_false, not_false_eq_true, Nat.reduceSub, Int.reduceToNat, W_slice, W_blt, W_mth, W_comp, WOe_none, WOe_some, WI_seq, WI_range1, WI_range2, WI_enum, WI_zip, WI_rev, WT0_none, WT0_some, Ss_asg, Ss_setSub, Ss_aug, WS_asg, WS_aug, WS_for, WS_setC, bT_name, bT_tup, bT_lst, bTs_nil, bTs_name, seq_lst, seq_tup, seq_scr, seq_str, seq_loc, lst_lst, lst_scr, lst_loc, exInt, exLoc, exLst, exLst1, exLV_lst, exLV_loc, mOk_app, mOk_pop, mOk_ext, mOk_ins, mOk_ind, mOk_join, mOk_indl, m_append, m_pop, m_extend, m_insert, m_join, b_listL, b_listT, b_listS, b_listK, b_tupL, b_tupT, b_tupK, b_max2, b_min2, b_ord, b_str, sl_lst, sl_loc, sl_scr, sl_tupE, sl_strE, cat_lst, cat_loc, cat_tup, wLen_scr, wLen_loc, wLen_str, wSub_scr, wSub_loc, wSub_str, aug_add, aug_sub, tru_lst, tru_tup, tru_non, ty_scr_list, sg_p0, sg_pl, ss_p0, ss_pl, ob_set0, ob_set1, ob_set2, ob_set3, ob_g0, ob_g1, ob_g2, ob_g3, List.append_assoc, List.length_append, List.nil_append, Nat.add_zero, Nat.add_assoc, Int.reduceNeg, wipeA, orc_run, orc_glob, orc_init, orc_isa, orc_gdct, W_isc, b_intB, W_glob, W_gget, W_fld, W_mcall, W_make, W_make0, W_dsp, Ss_setFld, subO_l, subO_d, lenO_l, lenO_d, listO_l, listO_d, putO_l, keyV_int, keyV_str, wIn_str, wNotin_str, mapSome, at_0, at_1, at_2, at_3, at_4, at_5, ix_1_0, ix_2_0, ix_2_1, ix_3_0, ix_3_1, ix_3_2, ix_4_0, ix_4_1, ix_4_2, ix_4_3, va_s0, va_s1, va_s2, va_s3])
/-- a fraction's size -/
def BQ (n : Nat) (r : Rat) : Prop := B n r.num ∧ B n (r.den : Int)
theorem BQ.mono {m n : Nat} {r : Rat} (h : BQ m r) (l : m ≤ n) : BQ n r := ⟨h.1.mono l, h.2.mono l⟩
theorem BQ.neg {n : Nat} {r : Rat} (h : BQ n r) : BQ n (-r) := ⟨by rw [Rat.neg_num]; exact h.1.neg, by rw [Rat.neg_den]; exact h.2⟩
theorem BQ.of {n : Nat} {a b : Int} (ha : B n a) (hb : B n b) (h0 : b ≠ 0) : BQ n (Rat.divInt a b) := divInt_B ha hb h0
theorem add_dv (r q : Rat) : Rat.divInt (r.num * q.den + q.num * r.den) (r.den * q.den) = r + q := by
  have h := Rat.divInt_add_divInt r.num q.num (den_ne r) (den_ne q)
  rw [Rat.num_divInt_den, Rat.num_divInt_den] at h
  rw [h]
theorem sub_dv (r q : Rat) : Rat.divInt (r.num * q.den - q.num * r.den) (r.den * q.den) = r - q := by
  have h := Rat.divInt_sub_divInt r.num q.num (den_ne r) (den_ne q)
  rw [Rat.num_divInt_den, Rat.num_divInt_den] at h
  rw [h]
theorem mul_dv (r q : Rat) : Rat.divInt (r.num * q.num) (r.den * q.den) = r * q := by
  have h := Rat.divInt_mul_divInt r.num q.num (d₁ := r.den) (d₂ := q.den)
  rw [Rat.num_divInt_den, Rat.num_divInt_den] at h
  rw [h]
theorem div_dv (r q : Rat) : Rat.divInt (r.num * q.den) (r.den * q.num) = r / q := by
  have h := Rat.divInt_mul_divInt r.num q.den (d₁ := r.den) (d₂ := q.num)
  have e : Rat.divInt q.den q.num = q⁻¹ := by
    rw [← Rat.inv_divInt, Rat.num_divInt_den]
  rw [Rat.num_divInt_den, e] at h
  rw [Rat.div_def, h]
theorem BQ.add {n : Nat} {r q : Rat} (h : BQ n r) (h' : BQ n q) : BQ (n + n + 1) (r + q) := by
  rw [← add_dv]
  exact BQ.of (B.add (h.1.mul h'.2) (h'.1.mul h.2)) ((h.2.mul h'.2).mono (by omega)) (Int.mul_ne_zero (den_ne r) (den_ne q))
theorem BQ.sub {n : Nat} {r q : Rat} (h : BQ n r) (h' : BQ n q) : BQ (n + n + 1) (r - q) := by
  rw [← sub_dv]
  exact BQ.of (B.sub (h.1.mul h'.2) (h'.1.mul h.2)) ((h.2.mul h'.2).mono (by omega)) (Int.mul_ne_zero (den_ne r) (den_ne q))
theorem BQ.mul {n : Nat} {r q : Rat} (h : BQ n r) (h' : BQ n q) : BQ (n + n) (r * q) := by
  rw [← mul_dv]
  exact BQ.of (h.1.mul h'.1) (h.2.mul h'.2) (Int.mul_ne_zero (den_ne r) (den_ne q))
theorem num_ne {q : Rat} (h : q ≠ 0) : q.num ≠ 0 := fun z => h (Rat.num_eq_zero.mp z)
theorem BQ.div {n : Nat} {r q : Rat} (h : BQ n r) (h' : BQ n q) (h0 : q ≠ 0) : BQ (n + n) (r / q) := by
  rw [← div_dv]
  exact BQ.of (h.1.mul h'.2) (h.2.mul h'.1) (Int.mul_ne_zero (den_ne r) (num_ne h0))
section
variable {T : Tab} (t1 : T "divisor" = some f_divisor) (t2 : T "fraction" = some f_fraction)
include t1 t2
theorem plus_ok (t3 : T "plus" = some f_plus) (k : Nat) (r q : Rat) {n : Nat} (hr : BQ n r) (hq : BQ n q) (hn : n ≤ 4000) {S : Sto} {P : PV} {E : PX} (h : P (Qv (r + q)) S) : call T (k + 3) "plus" [Qv r, Qv q] S P E := by
  refine call_def t3 rfl ?_
  unfold f_plus Qv
  walk_at "am"
  refine ⟨hr.1.cmul hq.2 (by omega), hq.1.cmul hr.2 (by omega), hr.2.cmul hq.2 (by omega), ?_⟩
  refine fraction_ok t1 t2 k _ _ (Int.mul_ne_zero (den_ne r) (den_ne q)) (hr.2.mul hq.2) (by omega) ?_
  rw [add_dv]
  exact fin_keep h
theorem minus_ok (t3 : T "minus" = some f_minus) (k : Nat) (r q : Rat) {n : Nat} (hr : BQ n r) (hq : BQ n q) (hn : n ≤ 4000) {S : Sto} {P : PV} {E : PX} (h : P (Qv (r - q)) S) : call T (k + 3) "minus" [Qv r, Qv q] S P E := by
  refine call_def t3 rfl ?_
  unfold f_minus Qv
  walk_at "am"
  refine ⟨hr.1.cmul hq.2 (by omega), hq.1.cmul hr.2 (by omega), hr.2.cmul hq.2 (by omega), ?_⟩
  refine fraction_ok t1 t2 k _ _ (Int.mul_ne_zero (den_ne r) (den_ne q)) (hr.2.mul hq.2) (by omega) ?_
  rw [sub_dv]
  exact fin_keep h
theorem times_ok (t3 : T "times" = some f_times) (k : Nat) (r q : Rat) {n : Nat} (hr : BQ n r) (hq : BQ n q) (hn : n ≤ 4000) {S : Sto} {P : PV} {E : PX} (h : P (Qv (r * q)) S) : call T (k + 3) "times" [Qv r, Qv q] S P E := by
  refine call_def t3 rfl ?_
  unfold f_times Qv
  walk_at "am"
  refine ⟨hr.1.cmul hq.1 (by omega), hr.2.cmul hq.2 (by omega), ?_⟩
  refine fraction_ok t1 t2 k _ _ (Int.mul_ne_zero (den_ne r) (den_ne q)) (hr.2.mul hq.2) (by omega) ?_
  rw [mul_dv]
  exact fin_keep h
theorem over_ok (t3 : T "over" = some f_over) (k : Nat) (r q : Rat) (h0 : q ≠ 0) {n : Nat} (hr : BQ n r) (hq : BQ n q) (hn : n ≤ 4000) {S : Sto} {P : PV} {E : PX} (h : P (Qv (r / q)) S) : call T (k + 3) "over" [Qv r, Qv q] S P E := by
  refine call_def t3 rfl ?_
  unfold f_over Qv
  walk_at "am"
  rw [if_neg (num_ne h0)]
  refine ⟨hr.1.cmul hq.2 (by omega), hr.2.cmul hq.1 (by omega), ?_⟩
  refine fraction_ok t1 t2 k _ _ (Int.mul_ne_zero (den_ne r) (num_ne h0)) (hr.2.mul hq.1) (by omega) ?_
  rw [div_dv]
  exact fin_keep h
end
theorem lt_cross (r q : Rat) : (r.num * q.den < q.num * r.den) ↔ r < q := by
  rw [Rat.lt_iff]
theorem less_ok {T : Tab} (t3 : T "less" = some f_less) (k : Nat) (r q : Rat) {n : Nat} (hr : BQ n r) (hq : BQ n q) (hn : n ≤ 4000) {S : Sto} {P : PV} {E : PX} (h : P (.bl (decide (r < q))) S) : call T (k + 1) "less" [Qv r, Qv q] S P E := by
  refine call_def t3 rfl ?_
  unfold f_less Qv
  walk_at "am"
  refine ⟨hr.1.cmul hq.2 (by omega), hq.1.cmul hr.2 (by omega), fin_keep ?_⟩
  have e : decide (r.num * q.den < q.num * r.den) = decide (r < q) := decide_eq_decide.mpr (lt_cross r q)
  rw [e]; exact h
/-- a bound that may be none -/
def OQ : Option Rat → Va
  | none => .non | some q => Qv q
def heldR (r lo : Rat) : Option Rat → Rat
  | none => if r < lo then lo else r
  | some hi => if r < lo then lo else if (if hi < lo then lo else hi) < r then (if hi < lo then lo else hi) else r
theorem held_ok {T : Tab} (t3 : T "less" = some f_less) (t4 : T "held" = some f_held) (k : Nat) (r lo : Rat) (hi : Option Rat) {n : Nat} (hr : BQ n r) (hl : BQ n lo) (hh : ∀ q, hi = some q → BQ n q) (hn : n ≤ 4000) {S : Sto} {P : PV} {E : PX} (h : P (Qv (heldR r lo hi)) S) : call T (k + 2) "held" [Qv r, Qv lo, OQ hi] S P E := by
  refine call_def t4 rfl ?_
  unfold f_held
  cases hi with
  | none =>
    unfold OQ
    simp only [heldR] at h
    refine seq_to (call_mono _ _) [some (Qv r), some (Qv lo), some .non] S (by walk_at "am") ?_
    walk_at "am"
    refine less_ok t3 k r lo hr hl hn ?_
    walk_at "am"
    split
    · rename_i z; rw [if_pos z] at h; exact fin_keep h
    · rename_i z; rw [if_neg z] at h; exact fin_keep h
  | some q =>
    unfold OQ
    simp only [heldR] at h
    have hq := hh q rfl
    refine seq_to (call_mono _ _) [some (Qv r), some (Qv lo), some (Qv (if q < lo then lo else q))] S ?_ ?_
    · simp only [Qv]
      walk_at "am"
      refine less_ok t3 k q lo hq hl hn ?_
      walk_at "am"
      split <;> rfl
    have hq' : BQ n (if q < lo then lo else q) := by split <;> assumption
    generalize (if q < lo then lo else q) = q' at *
    walk_at "am"
    refine less_ok t3 k r lo hr hl hn ?_
    walk_at "am"
    split
    · rename_i z; rw [if_pos z] at h; exact fin_keep h
    · rename_i z; rw [if_neg z] at h
      simp only [Qv]
      walk_at "am"
      refine less_ok t3 k q' r hq' hr hn ?_
      walk_at "am"
      split
      · rename_i z; rw [if_pos z] at h; exact fin_keep h
      · rename_i z; rw [if_neg z] at h; exact fin_keep h
end FR
end

section
set_option linter.all false
set_option maxRecDepth 100000
set_option maxHeartbeats 1000000
/-! The laws' own: a fraction that comes to as much. -/
open PySem
namespace AM
def f_l_lowest : Fn := ⟨["_law_top", "_law_bottom"], ["_law_top", "_law_bottom", "_law_both"],
  (.cons (.set 2 (.call "_law_divisor" (.cons (.var 0) (.cons (.var 1) .nil))))
  (.cons (.ret (.tup (.cons (.bin .fdiv (.var 0) (.var 2)) (.cons (.bin .fdiv (.var 1) (.var 2)) .nil))))
  .nil))⟩
def f_l_comes_to : Fn := ⟨["_law_found", "_law_top", "_law_bottom"], ["_law_found", "_law_top", "_law_bottom"],
  (.cons (.ite (.or (.cons (.not (.val (.isi (.var 0) .tuple))) (.one (.val (.cmp .ne (.len (.var 0)) (.int 2)))))) (.cons (.ret (.bl false))
  .nil) .nil)
  (.cons (.ite (.or (.cons (.not (.val (.call "_law_whole" (.cons (.sub (.var 0) (.int 0)) .nil)))) (.one (.not (.val (.call "_law_whole" (.cons (.sub (.var 0) (.int 1)) .nil))))))) (.cons (.ret (.bl false))
  .nil) .nil)
  (.cons (.ite (.or (.cons (.val (.cmp .lt (.sub (.var 0) (.int 1)) (.int 1))) (.one (.val (.cmp .ne (.call "_law_divisor" (.cons (.sub (.var 0) (.int 0)) (.cons (.sub (.var 0) (.int 1)) .nil))) (.int 1)))))) (.cons (.ret (.bl false))
  .nil) .nil)
  (.cons (.ret (.cmp .eq (.bin .mul (.sub (.var 0) (.int 0)) (.var 2)) (.bin .mul (.var 1) (.sub (.var 0) (.int 1)))))
  .nil))))⟩
end AM
namespace FR
open PySem AM
local macro_rules | `(tactic| walk_at "am") => `(tactic| try simp only [st_set0, st_setS, iteTrue, iteFalse, iteDec, iteNDec, exSome, exBl, W_var, W_int, W_bl, W_non, W_str, W_tup, W_lst, W_bin, W_neg, W_cmp, W_isN, W_notN, W_lrev, wIsb, wNisb, W_chain, W_tst, W_ite, W_call, W_len, W_abs, W_isi, W_sub, WT_val, WT_not, WT_and, WT_or, WA_one, WA_cons, WO_one, WO_cons, WB_val, WB_not, WB_and, WB_or, WBA_one, WBA_cons, WBO_one, WBO_cons, WL_nil, WL_cons, WS_set, WS_ret, WS_retN, WS_pass, WS_brk, WS_cont, WS_drop, WS_ite, WS_raise, WSs_nil, Ss_set, Ss_ret, Ss_retN, Ss_pass, Ss_brk, Ss_cont, Ss_drop, Ss_raise, Ss_ite_ret, Ss_ite_retN, Ss_ite_raise, Ss_ite_cont, Ss_ite_brk, Ss_ite_last, gt_0, gt_S, wAdd_int, wSub_int, wMul_int, wMul_rep, wDiv_int, wMod_int, wPow_int, wAdd_str, wNeg_int, wAbs_int, wLt_int, wLe_int, wGt_int, wGe_int, wEq_int, wNe_int, wEq_bl, wNe_bl, wEq_str, wNe_str, wLen_tup, wLen_lst, tru_bl, tru_int, ty_int_int, ty_int_bool, ty_int_str, ty_int_tuple, ty_int_list, ty_int_dict, ty_bl_int, ty_bl_bool, ty_bl_str, ty_bl_tuple, ty_bl_list, ty_bl_dict, ty_str_int, ty_str_bool, ty_str_str, ty_str_tuple, ty_str_list, ty_str_dict, ty_tup_int, ty_tup_bool, ty_tup_str, ty_tup_tuple, ty_tup_list, ty_tup_dict, ty_lst_int, ty_lst_bool, ty_lst_str, ty_lst_tuple, ty_lst_list, ty_lst_dict, ty_dct_int, ty_dct_bool, ty_dct_str, ty_dct_tuple, ty_dct_list, ty_dct_dict, ty_non, sub_tup0, sub_tup1, sub_tup2, sub_tup3, sub_tup4, sub_tup5, sub_lst0, sub_lst1, sub_lst2, sub_lst3, sub_lst4, sub_lst5, startA, List.map_cons, List.map_nil, List.length_cons, List.length_nil, List.replicate, List.cons_append, List.nil_append, true_and, and_true, ne_eq, isNon, Bool.not_true, Bool.not_false, Bool.true_or, Bool.or_true, Bool.false_or, reduceIte, Nat.reduceAdd, Nat.zero_add, Int.cast_ofNat_Int, Int.reduceEq, Int.reduceLT, Int.reduceLE, Nat.reduceLeDiff, decide_true, decide_false, not_true_eq_false, not_false_eq_true, Nat.reduceSub, Int.reduceToNat, W_slice, W_blt, W_mth, W_comp, WOe_none, WOe_some, WI_seq, WI_range1, WI_range2, WI_enum, WI_zip, WI_rev, WT0_none, WT0_some, Ss_asg, Ss_setSub, Ss_aug, WS_asg, WS_aug, WS_for, WS_setC, bT_name, bT_tup, bT_lst, bTs_nil, bTs_name, seq_lst, seq_tup, seq_scr, seq_str, seq_loc, lst_lst, lst_scr, lst_loc, exInt, exLoc, exLst, exLst1, exLV_lst, exLV_loc, mOk_app, mOk_pop, mOk_ext, mOk_ins, mOk_ind, mOk_join, mOk_indl, m_append, m_pop, m_extend, m_insert, m_join, b_listL, b_listT, b_listS, b_listK, b_tupL, b_tupT, b_tupK, b_max2, b_min2, b_ord, b_str, sl_lst, sl_loc, sl_scr, sl_tupE, sl_strE, cat_lst, cat_loc, cat_tup, wLen_scr, wLen_loc, wLen_str, wSub_scr, wSub_loc, wSub_str, aug_add, aug_sub, tru_lst, tru_tup, tru_non, ty_scr_list, sg_p0, sg_pl, ss_p0, ss_pl, ob_set0, ob_set1, ob_set2, ob_set3, ob_g0, ob_g1, ob_g2, ob_g3, List.append_assoc, List.length_append, List.nil_append, Nat.add_zero, Nat.add_assoc, Int.reduceNeg, wipeA, orc_run, orc_glob, orc_init, orc_isa, orc_gdct, W_isc, b_intB, W_glob, W_gget, W_fld, W_mcall, W_make, W_make0, W_dsp, Ss_setFld, subO_l, subO_d, lenO_l, lenO_d, listO_l, listO_d, putO_l, keyV_int, keyV_str, wIn_str, wNotin_str, mapSome, at_0, at_1, at_2, at_3, at_4, at_5, ix_1_0, ix_2_0, ix_2_1, ix_3_0, ix_3_1, ix_3_2, ix_4_0, ix_4_1, ix_4_2, ix_4_3, va_s0, va_s1, va_s2, va_s3])
local macro_rules | `(tactic| walk_at "if") => `(tactic| (try simp only []); rw [Ss_ite]; simp only [st_set0, st_setS, iteTrue, iteFalse, iteDec, iteNDec, exSome, exBl, W_var, W_int, W_bl, W_non, W_str, W_tup, W_lst, W_bin, W_neg, W_cmp, W_isN, W_notN, W_lrev, wIsb, wNisb, W_chain, W_tst, W_ite, W_call, W_len, W_abs, W_isi, W_sub, WT_val, WT_not, WT_and, WT_or, WA_one, WA_cons, WO_one, WO_cons, WB_val, WB_not, WB_and, WB_or, WBA_one, WBA_cons, WBO_one, WBO_cons, WL_nil, WL_cons, WS_set, WS_ret, WS_retN, WS_pass, WS_brk, WS_cont, WS_drop, WS_ite, WS_raise, WSs_nil, Ss_set, Ss_ret, Ss_retN, Ss_pass, Ss_brk, Ss_cont, Ss_drop, Ss_raise, Ss_ite_ret, Ss_ite_retN, Ss_ite_raise, Ss_ite_cont, Ss_ite_brk, Ss_ite_last, gt_0, gt_S, wAdd_int, wSub_int, wMul_int, wMul_rep, wDiv_int, wMod_int, wPow_int, wAdd_str, wNeg_int, wAbs_int, wLt_int, wLe_int, wGt_int, wGe_int, wEq_int, wNe_int, wEq_bl, wNe_bl, wEq_str, wNe_str, wLen_tup, wLen_lst, tru_bl, tru_int, ty_int_int, ty_int_bool, ty_int_str, ty_int_tuple, ty_int_list, ty_int_dict, ty_bl_int, ty_bl_bool, ty_bl_str, ty_bl_tuple, ty_bl_list, ty_bl_dict, ty_str_int, ty_str_bool, ty_str_str, ty_str_tuple, ty_str_list, ty_str_dict, ty_tup_int, ty_tup_bool, ty_tup_str, ty_tup_tuple, ty_tup_list, ty_tup_dict, ty_lst_int, ty_lst_bool, ty_lst_str, ty_lst_tuple, ty_lst_list, ty_lst_dict, ty_dct_int, ty_dct_bool, ty_dct_str, ty_dct_tuple, ty_dct_list, ty_dct_dict, ty_non, sub_tup0, sub_tup1, sub_tup2, sub_tup3, sub_tup4, sub_tup5, sub_lst0, sub_lst1, sub_lst2, sub_lst3, sub_lst4, sub_lst5, startA, List.map_cons, List.map_nil, List.length_cons, List.length_nil, List.replicate, List.cons_append, List.nil_append, true_and, and_true, ne_eq, isNon, Bool.not_true, Bool.not_false, Bool.true_or, Bool.or_true, Bool.false_or, reduceIte, Nat.reduceAdd, Nat.zero_add, Int.cast_ofNat_Int, Int.reduceEq, Int.reduceLT, Int.reduceLE, Nat.reduceLeDiff, decide_true, decide_false, not_true_eq_false, not_false_eq_true, Nat.reduceSub, Int.reduceToNat, W_slice, W_blt, W_mth, W_comp, WOe_none, WOe_some, WI_seq, WI_range1, WI_range2, WI_enum, WI_zip, WI_rev, WT0_none, WT0_some, Ss_asg, Ss_setSub, Ss_aug, WS_asg, WS_aug, WS_for, WS_setC, bT_name, bT_tup, bT_lst, bTs_nil, bTs_name, seq_lst, seq_tup, seq_scr, seq_str, seq_loc, lst_lst, lst_scr, lst_loc, exInt, exLoc, exLst, exLst1, exLV_lst, exLV_loc, mOk_app, mOk_pop, mOk_ext, mOk_ins, mOk_ind, mOk_join, mOk_indl, m_append, m_pop, m_extend, m_insert, m_join, b_listL, b_listT, b_listS, b_listK, b_tupL, b_tupT, b_tupK, b_max2, b_min2, b_ord, b_str, sl_lst, sl_loc, sl_scr, sl_tupE, sl_strE, cat_lst, cat_loc, cat_tup, wLen_scr, wLen_loc, wLen_str, wSub_scr, wSub_loc, wSub_str, aug_add, aug_sub, tru_lst, tru_tup, tru_non, ty_scr_list, sg_p0, sg_pl, ss_p0, ss_pl, ob_set0, ob_set1, ob_set2, ob_set3, ob_g0, ob_g1, ob_g2, ob_g3, List.append_assoc, List.length_append, List.nil_append, Nat.add_zero, Nat.add_assoc, Int.reduceNeg, wipeA, orc_run, orc_glob, orc_init, orc_isa, orc_gdct, W_isc, b_intB, W_glob, W_gget, W_fld, W_mcall, W_make, W_make0, W_dsp, Ss_setFld, subO_l, subO_d, lenO_l, lenO_d, listO_l, listO_d, putO_l, keyV_int, keyV_str, wIn_str, wNotin_str, mapSome, at_0, at_1, at_2, at_3, at_4, at_5, ix_1_0, ix_2_0, ix_2_1, ix_3_0, ix_3_1, ix_3_2, ix_4_0, ix_4_1, ix_4_2, ix_4_3, va_s0, va_s1, va_s2, va_s3])
theorem cl_lt (c m : Int) (hm : 0 < m) : 0 ≤ c.fmod m ∧ c.fmod m < m := by
  rw [Int.fmod_eq_emod_of_nonneg c (by omega)]
  exact ⟨Int.emod_nonneg c (by omega), Int.emod_lt_of_pos c hm⟩
theorem lowest_ok {T : Tab} {f : Str} {d e2 : Fn} (hT : T f = some d) (hd : d.body = f_l_lowest.body) (hp : d.ps.length = 2) (hN : d.N.length = 3)
    (v1 : T "_law_divisor" = some e2) (v2 : e2.body = f_divisor.body) (v3 : e2.ps.length = 2) (v4 : e2.N.length = 3) (k : Nat) (a b : Int) (hb : 0 < b) {n : Nat} (hs : B n b) (hn : n ≤ 9000) {S : Sto} {P : PV} {E : PX}
    (h : P (Qv (Rat.divInt a b)) S) : call T (k + 2) f [.int a, .int b] S P E := by
  refine call_def hT hp.symm ?_
  rw [hd]
  unfold f_l_lowest
  simp only [startA_eq, hN]
  walk_at "am"
  refine divisor_ok v1 v2 v3 v4 k a b ?_
  have h0 : b ≠ 0 := by omega
  have hg : Int.gcd a b ≠ 0 := by
    intro z
    rw [Int.gcd_eq_zero_iff] at z
    exact h0 z.2
  have e1 := divInt_num a b h0
  have e2 := divInt_den a b h0
  rw [if_neg (by omega)] at e1 e2
  have key : CDivA (Int.gcd a b : Int) := ⟨by omega, B.log (n := n) (hs.of_le (by have := gcd_le (a := a) h0; simpa using this)) hn⟩
  walk_at "am"
  refine ⟨key, key, fin_keep ?_⟩
  rw [e1, e2]
  exact h
theorem comes_ok {T : Tab} {f : Str} {d e1 e2 : Fn} (hT : T f = some d) (hd : d.body = f_l_comes_to.body) (hp : d.ps.length = 3) (hN : d.N.length = 3)
    (w1 : T "_law_whole" = some e1) (w2 : e1.body = f_l_whole.body) (w3 : e1.ps.length = 1) (w4 : e1.N.length = 1) (v1 : T "_law_divisor" = some e2) (v2 : e2.body = f_divisor.body) (v3 : e2.ps.length = 2) (v4 : e2.N.length = 3)
    (k : Nat) (r : Rat) (t b : Int) {n : Nat} (hr : BQ n r) (ht : B n t) (hb : B n b) (hn : n ≤ 60000000) {S : Sto} {P : PV} {E : PX} (h : P (.bl (decide (r.num * b = t * r.den))) S) : call T (k + 2) f [Qv r, .int t, .int b] S P E := by
  refine call_def hT hp.symm ?_
  rw [hd]
  unfold f_l_comes_to Qv
  simp only [startA_eq, hN]
  walk_at "am"
  have hpos : ¬ ((r.den : Int) < 1) := by
    have := r.den_pos
    omega
  refine whole_ok w1 w2 w3 w4 k _ ?_
  walk_at "am"
  refine whole_ok w1 w2 w3 w4 k _ ?_
  walk_at "am"
  rw [if_neg hpos]
  refine divisor_ok v1 v2 v3 v4 k _ _ ?_
  rw [rat_gcd]
  walk_at "am"
  exact ⟨hr.1.cmul hb (by omega), ht.cmul hr.2 (by omega), fin_keep h⟩
/-- two ways of one fraction -/
theorem cross_dv {a b : Int} (h0 : b ≠ 0) {r : Rat} (e : Rat.divInt a b = r) : decide (r.num * b = a * r.den) = true := by
  subst e
  exact decide_eq_true (divInt_cross h0)
end FR
end

section
set_option linter.all false
set_option maxRecDepth 100000
set_option maxHeartbeats 1000000
/-! Totals. -/
open PySem
namespace AM
def f_total : Fn := ⟨["some"], ["some", "found", "one"],
  (.cons (.set 1 (.tup (.cons (.int 0) (.cons (.int 1) .nil))))
  (.cons (.for_ (.name 2) (.seq (.var 0)) (.cons (.set 1 (.call "plus" (.cons (.var 1) (.cons (.var 2) .nil))))
  .nil))
  (.cons (.ret (.var 1))
  .nil)))⟩
end AM
namespace FR
open PySem AM
local macro_rules | `(tactic| walk_at "am") => `(tactic| try simp only [st_set0, st_setS, iteTrue, iteFalse, iteDec, iteNDec, exSome, exBl, W_var, W_int, W_bl, W_non, W_str, W_tup, W_lst, W_bin, W_neg, W_cmp, W_isN, W_notN, W_lrev, wIsb, wNisb, W_chain, W_tst, W_ite, W_call, W_len, W_abs, W_isi, W_sub, WT_val, WT_not, WT_and, WT_or, WA_one, WA_cons, WO_one, WO_cons, WB_val, WB_not, WB_and, WB_or, WBA_one, WBA_cons, WBO_one, WBO_cons, WL_nil, WL_cons, WS_set, WS_ret, WS_retN, WS_pass, WS_brk, WS_cont, WS_drop, WS_ite, WS_raise, WSs_nil, Ss_set, Ss_ret, Ss_retN, Ss_pass, Ss_brk, Ss_cont, Ss_drop, Ss_raise, Ss_ite_ret, Ss_ite_retN, Ss_ite_raise, Ss_ite_cont, Ss_ite_brk, Ss_ite_last, gt_0, gt_S, wAdd_int, wSub_int, wMul_int, wMul_rep, wDiv_int, wMod_int, wPow_int, wAdd_str, wNeg_int, wAbs_int, wLt_int, wLe_int, wGt_int, wGe_int, wEq_int, wNe_int, wEq_bl, wNe_bl, wEq_str, wNe_str, wLen_tup, wLen_lst, tru_bl, tru_int, ty_int_int, ty_int_bool, ty_int_str, ty_int_tuple, ty_int_list, ty_int_dict, ty_bl_int, ty_bl_bool, ty_bl_str, ty_bl_tuple, ty_bl_list, ty_bl_dict, ty_str_int, ty_str_bool, ty_str_str, ty_str_tuple, ty_str_list, ty_str_dict, ty_tup_int, ty_tup_bool, ty_tup_str, ty_tup_tuple, ty_tup_list, ty_tup_dict, ty_lst_int, ty_lst_bool, ty_lst_str, ty_lst_tuple, ty_lst_list, ty_lst_dict, ty_dct_int, ty_dct_bool, ty_dct_str, ty_dct_tuple, ty_dct_list, ty_dct_dict, ty_non, sub_tup0, sub_tup1, sub_tup2, sub_tup3, sub_tup4, sub_tup5, sub_lst0, sub_lst1, sub_lst2, sub_lst3, sub_lst4, sub_lst5, startA, List.map_cons, List.map_nil, List.length_cons, List.length_nil, List.replicate, List.cons_append, List.nil_append, true_and, and_true, ne_eq, isNon, Bool.not_true, Bool.not_false, Bool.true_or, Bool.or_true, Bool.false_or, reduceIte, Nat.reduceAdd, Nat.zero_add, Int.cast_ofNat_Int, Int.reduceEq, Int.reduceLT, Int.reduceLE, Nat.reduceLeDiff, decide_true, decide_false, not_true_eq_false, not_false_eq_true, Nat.reduceSub, Int.reduceToNat, W_slice, W_blt, W_mth, W_comp, WOe_none, WOe_some, WI_seq, WI_range1, WI_range2, WI_enum, WI_zip, WI_rev, WT0_none, WT0_some, Ss_asg, Ss_setSub, Ss_aug, WS_asg, WS_aug, WS_for, WS_setC, bT_name, bT_tup, bT_lst, bTs_nil, bTs_name, seq_lst, seq_tup, seq_scr, seq_str, seq_loc, lst_lst, lst_scr, lst_loc, exInt, exLoc, exLst, exLst1, exLV_lst, exLV_loc, mOk_app, mOk_pop, mOk_ext, mOk_ins, mOk_ind, mOk_join, mOk_indl, m_append, m_pop, m_extend, m_insert, m_join, b_listL, b_listT, b_listS, b_listK, b_tupL, b_tupT, b_tupK, b_max2, b_min2, b_ord, b_str, sl_lst, sl_loc, sl_scr, sl_tupE, sl_strE, cat_lst, cat_loc, cat_tup, wLen_scr, wLen_loc, wLen_str, wSub_scr, wSub_loc, wSub_str, aug_add, aug_sub, tru_lst, tru_tup, tru_non, ty_scr_list, sg_p0, sg_pl, ss_p0, ss_pl, ob_set0, ob_set1, ob_set2, ob_set3, ob_g0, ob_g1, ob_g2, ob_g3, List.append_assoc, List.length_append, List.nil_append, Nat.add_zero, Nat.add_assoc, Int.reduceNeg, wipeA, orc_run, orc_glob, orc_init, orc_isa, orc_gdct, W_isc, b_intB, W_glob, W_gget, W_fld, W_mcall, W_make, W_make0, W_dsp, Ss_setFld, subO_l, subO_d, lenO_l, lenO_d, listO_l, listO_d, putO_l, keyV_int, keyV_str, wIn_str, wNotin_str, mapSome, at_0, at_1, at_2, at_3, at_4, at_5, ix_1_0, ix_2_0, ix_2_1, ix_3_0, ix_3_1, ix_3_2, ix_4_0, ix_4_1, ix_4_2, ix_4_3, va_s0, va_s1, va_s2, va_s3])
local macro_rules | `(tactic| walk_at "if") => `(tactic| (try simp only []); rw [Ss_ite]; simp only [st_set0, st_setS, iteTrue, iteFalse, iteDec, iteNDec, exSome, exBl, W_var, W_int, W_bl, W_non, W_str, W_tup, W_lst, W_bin, W_neg, W_cmp, W_isN, W_notN, W_lrev, wIsb, wNisb, W_chain, W_tst, W_ite, W_call, W_len, W_abs, W_isi, W_sub, WT_val, WT_not, WT_and, WT_or, WA_one, WA_cons, WO_one, WO_cons, WB_val, WB_not, WB_and, WB_or, WBA_one, WBA_cons, WBO_one, WBO_cons, WL_nil, WL_cons, WS_set, WS_ret, WS_retN, WS_pass, WS_brk, WS_cont, WS_drop, WS_ite, WS_raise, WSs_nil, Ss_set, Ss_ret, Ss_retN, Ss_pass, Ss_brk, Ss_cont, Ss_drop, Ss_raise, Ss_ite_ret, Ss_ite_retN, Ss_ite_raise, Ss_ite_cont, Ss_ite_brk, Ss_ite_last, gt_0, gt_S, wAdd_int, wSub_int, wMul_int, wMul_rep, wDiv_int, wMod_int, wPow_int, wAdd_str, wNeg_int, wAbs_int, wLt_int, wLe_int, wGt_int, wGe_int, wEq_int, wNe_int, wEq_bl, wNe_bl, wEq_str, wNe_str, wLen_tup, wLen_lst, tru_bl, tru_int, ty_int_int, ty_int_bool, ty_int_str, ty_int_tuple, ty_int_list, ty_int_dict, ty_bl_int, ty_bl_bool, ty_bl_str, ty_bl_tuple, ty_bl_list, ty_bl_dict, ty_str_int, ty_str_bool, ty_str_str, ty_str_tuple, ty_str_list, ty_str_dict, ty_tup_int, ty_tup_bool, ty_tup_str, ty_tup_tuple, ty_tup_list, ty_tup_dict, ty_lst_int, ty_lst_bool, ty_lst_str, ty_lst_tuple, ty_lst_list, ty_lst_dict, ty_dct_int, ty_dct_bool, ty_dct_str, ty_dct_tuple, ty_dct_list, ty_dct_dict, ty_non, sub_tup0, sub_tup1, sub_tup2, sub_tup3, sub_tup4, sub_tup5, sub_lst0, sub_lst1, sub_lst2, sub_lst3, sub_lst4, sub_lst5, startA, List.map_cons, List.map_nil, List.length_cons, List.length_nil, List.replicate, List.cons_append, List.nil_append, true_and, and_true, ne_eq, isNon, Bool.not_true, Bool.not_false, Bool.true_or, Bool.or_true, Bool.false_or, reduceIte, Nat.reduceAdd, Nat.zero_add, Int.cast_ofNat_Int, Int.reduceEq, Int.reduceLT, Int.reduceLE, Nat.reduceLeDiff, decide_true, decide_false, not_true_eq_false, not_false_eq_true, Nat.reduceSub, Int.reduceToNat, W_slice, W_blt, W_mth, W_comp, WOe_none, WOe_some, WI_seq, WI_range1, WI_range2, WI_enum, WI_zip, WI_rev, WT0_none, WT0_some, Ss_asg, Ss_setSub, Ss_aug, WS_asg, WS_aug, WS_for, WS_setC, bT_name, bT_tup, bT_lst, bTs_nil, bTs_name, seq_lst, seq_tup, seq_scr, seq_str, seq_loc, lst_lst, lst_scr, lst_loc, exInt, exLoc, exLst, exLst1, exLV_lst, exLV_loc, mOk_app, mOk_pop, mOk_ext, mOk_ins, mOk_ind, mOk_join, mOk_indl, m_append, m_pop, m_extend, m_insert, m_join, b_listL, b_listT, b_listS, b_listK, b_tupL, b_tupT, b_tupK, b_max2, b_min2, b_ord, b_str, sl_lst, sl_loc, sl_scr, sl_tupE, sl_strE, cat_lst, cat_loc, cat_tup, wLen_scr, wLen_loc, wLen_str, wSub_scr, wSub_loc, wSub_str, aug_add, aug_sub, tru_lst, tru_tup, tru_non, ty_scr_list, sg_p0, sg_pl, ss_p0, ss_pl, ob_set0, ob_set1, ob_set2, ob_set3, ob_g0, ob_g1, ob_g2, ob_g3, List.append_assoc, List.length_append, List.nil_append, Nat.add_zero, Nat.add_assoc, Int.reduceNeg, wipeA, orc_run, orc_glob, orc_init, orc_isa, orc_gdct, W_isc, b_intB, W_glob, W_gget, W_fld, W_mcall, W_make, W_make0, W_dsp, Ss_setFld, subO_l, subO_d, lenO_l, lenO_d, listO_l, listO_d, putO_l, keyV_int, keyV_str, wIn_str, wNotin_str, mapSome, at_0, at_1, at_2, at_3, at_4, at_5, ix_1_0, ix_2_0, ix_2_1, ix_3_0, ix_3_1, ix_3_2, ix_4_0, ix_4_1, ix_4_2, ix_4_3, va_s0, va_s1, va_s2, va_s3])
def sumQ (qs : List Rat) : Rat := qs.foldl (· + ·) 0
theorem sumQ_snoc (qs : List Rat) (q : Rat) : sumQ (qs ++ [q]) = sumQ qs + q := by simp [sumQ]
theorem take_snoc {α : Type} {xs : List α} {i : Nat} {x : α} (h : xs[i]? = some x) : xs.take (i + 1) = xs.take i ++ [x] := by
  rw [List.take_succ, h]; rfl
/-- top and bottom, unreduced -/
def tb (qs : List Rat) : Int × Int := qs.foldl (fun z q => (z.1 * q.den + q.num * z.2, z.2 * q.den)) (0, 1)
theorem tb_snoc (qs : List Rat) (q : Rat) : tb (qs ++ [q]) = ((tb qs).1 * q.den + q.num * (tb qs).2, (tb qs).2 * q.den) := by simp [tb]
theorem snoc_ind {α : Type} {P : List α → Prop} (h0 : P []) (h1 : ∀ xs x, P xs → P (xs ++ [x])) : ∀ xs, P xs := by
  intro xs
  have key : ∀ ys : List α, P ys.reverse := by
    intro ys
    induction ys with
    | nil => exact h0
    | cons y ys ih => rw [List.reverse_cons]; exact h1 _ _ ih
  have := key xs.reverse
  rwa [List.reverse_reverse] at this
theorem tb_ok {m : Nat} : ∀ qs : List Rat, (∀ q ∈ qs, BQ m q) → (tb qs).2 ≠ 0 ∧ Rat.divInt (tb qs).1 (tb qs).2 = sumQ qs ∧ B (qs.length * (m + 1) + 1) (tb qs).1 ∧ B (qs.length * (m + 1) + 1) (tb qs).2 := by
  refine snoc_ind ?_ ?_
  · intro _
    exact ⟨by decide, rfl, (show B 0 0 by show (0 : Nat) < 2 ^ 0; decide).mono (by omega), (show B 1 1 by show (1 : Nat) < 2 ^ 1; decide).mono (by omega)⟩
  · intro qs q ih h
    obtain ⟨h1, h2, h3, h4⟩ := ih fun x hx => h x (List.mem_append_left _ hx)
    have hq := h q (by simp)
    rw [tb_snoc, sumQ_snoc, ← h2]
    have e : (qs ++ [q]).length * (m + 1) + 1 = qs.length * (m + 1) + 1 + (m + 1) := by
      rw [List.length_append, List.length_singleton, Nat.add_mul]; omega
    rw [e]
    refine ⟨Int.mul_ne_zero h1 (den_ne q), ?_, ?_, ?_⟩
    · have hh := Rat.divInt_add_divInt (tb qs).1 q.num h1 (den_ne q)
      rw [Rat.num_divInt_den] at hh
      rw [hh]
    · exact (B.add (h3.mul hq.2) ((hq.1.mul h4).mono (by omega))).mono (by omega)
    · exact (h4.mul hq.2).mono (by omega)
theorem sumQ_B {m : Nat} {qs : List Rat} (h : ∀ q ∈ qs, BQ m q) : BQ (qs.length * (m + 1) + 1) (sumQ qs) := by
  obtain ⟨h1, h2, h3, h4⟩ := tb_ok qs h
  rw [← h2]
  exact BQ.of h3 h4 h1
theorem total_ok {T : Tab} (t1 : T "divisor" = some f_divisor) (t2 : T "fraction" = some f_fraction) (t3 : T "plus" = some f_plus) (t4 : T "total" = some f_total) (k : Nat) (qs : List Rat) {m : Nat} (hq : ∀ q ∈ qs, BQ m q) (hl : qs.length * (m + 1) + m + 1 ≤ 4000)
    {v : Va} {S : Sto} {P : PV} {E : PX} (hv : LV S v (qs.map Qv)) (h : P (Qv (sumQ qs)) S) : call T (k + 4) "total" [v] S P E := by
  refine call_def t4 rfl ?_
  unfold f_total
  walk_at "am"
  refine seq_cut (call_mono _ _) (fun Γ S' => S = S' ∧ ∃ o, Γ = [some v, some (Qv (sumQ qs)), o]) ?_ ?_
  · walk_at "am"
    refine hv.seq fun G hG => ⟨hG _ fun _ _ z => z, ?_⟩
    refine for_ix (call_mono _ _) (fun i Γ S' => S = S' ∧ ∃ o, Γ = [some v, some (Qv (sumQ (qs.take i))), o]) ?_ ?_ ?_
    · exact ⟨rfl, none, rfl⟩
    · rintro i x Γ S' hx ⟨rfl, o, rfl⟩
      rw [List.getElem?_map] at hx
      obtain ⟨q, h1, rfl⟩ := Option.map_eq_some_iff.mp hx
      refine ⟨_, rfl, ?_⟩
      walk_at "am"
      have hi : i < qs.length := lt_of_get h1
      have hb := sumQ_B (m := m) (qs := qs.take i) fun x hx => hq x (List.mem_of_mem_take hx)
      rw [List.length_take, Nat.min_eq_left (by omega)] at hb
      have hi2 : i * (m + 1) ≤ qs.length * (m + 1) := Nat.mul_le_mul_right _ (by omega)
      refine plus_ok t1 t2 t3 k _ _ (n := i * (m + 1) + 1 + m) (hb.mono (by omega)) ((hq q (List.mem_of_getElem? h1)).mono (by omega)) (by omega) ?_
      rw [← sumQ_snoc, ← take_snoc h1]
      exact ⟨hG _ fun _ _ z => z, rfl, _, rfl⟩
    · rintro Γ S' ⟨rfl, o, rfl⟩
      rw [List.length_map, List.take_length]
      exact ⟨rfl, o, rfl⟩
  rintro Γ' S' ⟨rfl, o, rfl⟩
  walk_at "am"
  exact fin_keep h
theorem datQ (q : Rat) : dat (Qv q) = true ∧ dep (Qv q) = 1 := ⟨rfl, rfl⟩
theorem plQ (q : Rat) : pl (Qv q) = true := rfl
theorem plsQ (qs : List Rat) : pls (qs.map Qv) = true := pls_iff.mpr fun x hx => by
  obtain ⟨q, _, rfl⟩ := List.mem_map.mp hx
  rfl
theorem datsQ (qs : List Rat) : dat (.lst (qs.map Qv)) = true ∧ dep (.lst (qs.map Qv)) ≤ 2 := by
  refine ⟨dats_iff.mpr fun x hx => ?_, Nat.succ_le_succ (deps_le fun x hx => ?_)⟩
  · obtain ⟨q, _, rfl⟩ := List.mem_map.mp hx
    rfl
  · obtain ⟨q, _, rfl⟩ := List.mem_map.mp hx
    exact Nat.le_refl _
end FR
end

section
set_option linter.all false
set_option maxRecDepth 100000
set_option maxHeartbeats 1000000
/-! A line's room dealt out: the walk of deal.py. -/
open PySem
namespace AM
def f_bound_of : Fn := ⟨["item", "grows"], ["item", "grows", "base", "least", "most", "grow", "shrink"],
  (.cons (.asg (.tup (.cons (.name 2) (.cons (.name 3) (.cons (.name 4) (.cons (.name 5) (.cons (.name 6) .nil)))))) (.var 0))
  (.cons (.ite (.not (.val (.var 1))) (.cons (.ret (.var 3))
  .nil) .nil)
  (.cons (.ite (.and (.cons (.val (.notN (.var 4))) (.one (.val (.call "less" (.cons (.var 4) (.cons (.var 3) .nil))))))) (.cons (.ret (.var 3))
  .nil) .nil)
  (.cons (.ret (.var 4))
  .nil))))⟩
def f_level_of : Fn := ⟨["widths", "shares", "left", "room"], ["widths", "shares", "left", "room", "top", "bottom", "k"],
  (.cons (.asg (.tup (.cons (.name 4) (.cons (.name 5) .nil))) (.call "minus" (.cons (.var 3) (.cons (.call "total" (.cons (.var 0) .nil)) .nil))))
  (.cons (.ret (.call "over" (.cons (.tup (.cons (.abs (.var 4)) (.cons (.var 5) .nil))) (.cons (.call "total" (.cons (.comp [6] (.sub (.var 1) (.var 6)) (.name 6) (.seq (.var 2)) .none) .nil)) .nil))))
  .nil))⟩
def f_moved_by : Fn := ⟨["begin", "share", "level", "grows"], ["begin", "share", "level", "grows"],
  (.cons (.ite (.val (.var 3)) (.cons (.ret (.call "plus" (.cons (.var 0) (.cons (.call "times" (.cons (.var 1) (.cons (.var 2) .nil))) .nil))))
  .nil) .nil)
  (.cons (.ret (.call "minus" (.cons (.var 0) (.cons (.call "times" (.cons (.var 1) (.cons (.var 2) .nil))) .nil))))
  .nil))⟩
def f_is_beyond : Fn := ⟨["width", "bound", "grows"], ["width", "bound", "grows"],
  (.cons (.ite (.val (.isN (.var 1))) (.cons (.ret (.bl false))
  .nil) .nil)
  (.cons (.ite (.val (.var 2)) (.cons (.ret (.call "less" (.cons (.var 1) (.cons (.var 0) .nil))))
  .nil) .nil)
  (.cons (.ret (.call "less" (.cons (.var 0) (.cons (.var 1) .nil))))
  .nil)))⟩
def f_dealt : Fn := ⟨["items", "room"], ["items", "room", "widths", "item", "missing", "grows", "shares", "bounds", "left", "k", "rounds", "level", "ways", "beyond"],
  (.cons (.setC 2 [3] (.call "held" (.cons (.sub (.var 3) (.int 0)) (.cons (.sub (.var 3) (.int 1)) (.cons (.sub (.var 3) (.int 2)) .nil)))) (.name 3) (.seq (.var 0)) .none)
  (.cons (.set 4 (.call "minus" (.cons (.var 1) (.cons (.call "total" (.cons (.var 2) .nil)) .nil))))
  (.cons (.ite (.val (.cmp .eq (.var 4) (.tup (.cons (.int 0) (.cons (.int 1) .nil))))) (.cons (.ret (.tup (.cons (.var 2) (.cons (.tup (.cons (.int 0) (.cons (.int 1) .nil))) (.cons (.lst .nil) .nil)))))
  .nil) .nil)
  (.cons (.set 5 (.call "less" (.cons (.tup (.cons (.int 0) (.cons (.int 1) .nil))) (.cons (.var 4) .nil))))
  (.cons (.set 6 (.comp [3] (.ite (.val (.var 5)) (.sub (.var 3) (.int 3)) (.sub (.var 3) (.int 4))) (.name 3) (.seq (.var 0)) .none))
  (.cons (.set 7 (.comp [3] (.call "bound_of" (.cons (.var 3) (.cons (.var 5) .nil))) (.name 3) (.seq (.var 0)) .none))
  (.cons (.setC 8 [9] (.var 9) (.name 9) (.range1 (.len (.var 0))) (.some (.val (.cmp .ne (.sub (.var 6) (.var 9)) (.tup (.cons (.int 0) (.cons (.int 1) .nil)))))))
  (.cons (.set 10 (.lst .nil))
  (.cons (.whil (.val (.cmp .ne (.var 8) (.lst .nil))) (.cons (.set 11 (.call "level_of" (.cons (.var 2) (.cons (.var 6) (.cons (.var 8) (.cons (.var 1) .nil))))))
  (.cons (.set 12 (.dsp .nil))
  (.cons (.for_ (.name 9) (.seq (.var 8)) (.cons (.setSub (.var 12) (.var 9) (.call "moved_by" (.cons (.sub (.var 2) (.var 9)) (.cons (.sub (.var 6) (.var 9)) (.cons (.var 11) (.cons (.var 5) .nil))))))
  .nil))
  (.cons (.set 13 (.comp [9] (.var 9) (.name 9) (.seq (.var 8)) (.some (.val (.call "is_beyond" (.cons (.sub (.var 12) (.var 9)) (.cons (.sub (.var 7) (.var 9)) (.cons (.var 5) .nil))))))))
  (.cons (.ite (.val (.cmp .eq (.var 13) (.lst .nil))) (.cons (.for_ (.name 9) (.seq (.var 8)) (.cons (.setSub (.var 2) (.var 9) (.sub (.var 12) (.var 9)))
  .nil))
  (.cons (.ret (.tup (.cons (.var 2) (.cons (.var 11) (.cons (.var 10) .nil)))))
  .nil)) .nil)
  (.cons (.for_ (.name 9) (.seq (.var 13)) (.cons (.setSub (.var 2) (.var 9) (.sub (.var 7) (.var 9)))
  .nil))
  (.cons (.drop (.mth .append (.var 10) (.cons (.var 13) .nil)))
  (.cons (.setC 8 [9] (.var 9) (.name 9) (.seq (.var 8)) (.some (.val (.cmp .notin (.var 9) (.var 13)))))
  .nil)))))))))
  (.cons (.ret (.tup (.cons (.var 2) (.cons .non (.cons (.var 10) .nil)))))
  .nil))))))))))⟩
open L2
/-! ### dicts, small comparisons -/
theorem dget_dput {kvs : List (Key × Va)} {k j : Key} {v : Va} : dget (dput kvs k v) j = if j = k then some v else dget kvs j := by
  have hm : ∀ l : List (Key × Va), dget (l.map fun kv => if kv.1 = k then (kv.1, v) else kv) j = if j = k then (dget l k).map fun _ => v else dget l j := by
    intro l
    induction l with
    | nil => unfold dget; split <;> rfl
    | cons p l ih =>
      unfold dget at ih ⊢
      obtain ⟨q, u⟩ := p
      rw [List.map_cons]
      by_cases h1 : q = k
      · subst h1
        by_cases h2 : j = q
        · subst h2; simp
        · have h3 : ¬ q = j := fun z => h2 z.symm
          rw [if_neg h2] at ih ⊢
          simp only [if_pos, List.find?_cons, h3, decide_false]
          exact ih
      · by_cases h2 : j = k
        · subst h2
          rw [if_pos rfl] at ih ⊢
          simp only [h1, if_false, List.find?_cons, decide_false]
          exact ih
        · rw [if_neg h2] at ih ⊢
          simp only [h1, if_false, List.find?_cons]
          by_cases h3 : q = j
          · simp [h3]
          · simp only [h3, decide_false]
            exact ih
  unfold dput
  split
  · rename_i h
    rw [hm]
    split
    · rw [List.any_eq_true] at h
      obtain ⟨p, hp, he⟩ := h
      have : ∃ u, dget kvs k = some u := by
        unfold dget
        cases hf : kvs.find? fun kv => decide (kv.1 = k) with
        | none => exact absurd he (List.find?_eq_none.mp hf p hp)
        | some u => exact ⟨_, rfl⟩
      obtain ⟨u, hu⟩ := this
      rw [hu]; rfl
    · rfl
  · rename_i h
    have hno : dget kvs k = none := by
      unfold dget
      have : kvs.find? (fun kv => decide (kv.1 = k)) = none := by
        rw [List.find?_eq_none]
        intro p hp he
        exact h (List.any_eq_true.mpr ⟨p, hp, he⟩)
      rw [this]; rfl
    unfold dget at *
    rw [List.find?_append]
    by_cases h2 : j = k
    · subst h2
      rw [if_pos rfl]
      have : kvs.find? (fun kv => decide (kv.1 = j)) = none := by
        cases hf : kvs.find? (fun kv => decide (kv.1 = j)) with
        | none => rfl
        | some u => rw [hf] at hno; cases hno
      rw [this]
      simp
    · rw [if_neg h2]
      have h3 : ¬ k = j := fun z => h2 z.symm
      simp [h3]
theorem dput_len {kvs : List (Key × Va)} {k : Key} {v : Va} : (dput kvs k v).length ≤ kvs.length + 1 := by
  unfold dput
  split
  · rw [List.length_map]; omega
  · rw [List.length_append]; exact Nat.le_refl _
section
variable {S : Sto} {P : PV} {v u : Va} {xs : List Va}
theorem ne_nil (h : LV S v xs) (h' : LV S u []) (hd : dats xs = true) (h2 : dep (.lst xs) ≤ 64) (hp : P (.bl (!xs.isEmpty)) S) : wCmp .ne v u S P := by
  simp only [wCmp]
  refine .inr ⟨_, _, h.dv hd, h'.dv rfl, pd_shaped hd h2, pd_shaped rfl (by decide), ?_⟩
  cases xs with
  | nil => exact hp
  | cons x xs => simpa [pd, pds, PyData.eqv, PyData.eqvAll] using hp
theorem eq_nil (h : LV S v xs) (h' : LV S u []) (hd : dats xs = true) (h2 : dep (.lst xs) ≤ 64) (hp : P (.bl xs.isEmpty) S) : wCmp .eq v u S P := by
  simp only [wCmp]
  refine .inr ⟨_, _, h.dv hd, h'.dv rfl, pd_shaped hd h2, pd_shaped rfl (by decide), ?_⟩
  cases xs with
  | nil => exact hp
  | cons x xs => simpa [pd, pds, PyData.eqv, PyData.eqvAll] using hp
end
def iv (k : Nat) : Va := .int (k : Nat)
def ivs (r : List Nat) : List Va := r.map iv
theorem dats_ivs (r : List Nat) : dats (ivs r) = true := dats_iff.mpr fun x hx => by
  obtain ⟨q, _, rfl⟩ := List.mem_map.mp hx
  rfl
theorem dep_ivs (r : List Nat) : dep (.lst (ivs r)) ≤ 1 := Nat.succ_le_succ (deps_le fun x hx => by
  obtain ⟨q, _, rfl⟩ := List.mem_map.mp hx
  exact Nat.le_refl _)
theorem pls_ivs (r : List Nat) : pls (ivs r) = true := pls_iff.mpr fun x hx => by
  obtain ⟨q, _, rfl⟩ := List.mem_map.mp hx
  rfl
theorem any_pds (r : List Nat) (k : Nat) : ((pds (ivs r)).any fun z => PyData.eqv z (.int (k : Nat))) = decide (k ∈ r) := by
  induction r with
  | nil => rfl
  | cons a r ih =>
    show (PyData.eqv (.int (a : Nat)) (.int (k : Nat)) || (pds (ivs r)).any fun z => PyData.eqv z (.int (k : Nat))) = _
    rw [ih]
    have e : PyData.eqv (.int (a : Nat)) (.int (k : Nat)) = decide (a = k) := by
      by_cases z : a = k
      · subst z; simp [PyData.eqv]
      · simp [PyData.eqv, z]; omega
    rw [e]
    by_cases h : a = k
    · subst h; simp
    · have h' : ¬ k = a := fun z => h z.symm
      simp [h, h']
theorem notin_ivs {S : Sto} {P : PV} {j k : Nat} {r : List Nat} (h : S[j]? = some (.lst (ivs r))) (hp : P (.bl (!decide (k ∈ r))) S) : wCmp .notin (iv k) (.loc j) S P := by
  show wCmp .notin (.int (k : Nat)) (.loc j) S P
  simp only [wCmp, inO]
  refine ⟨_, h, ?_⟩
  show ∃ d ds, _
  refine ⟨.int (k : Nat), pds (ivs r), .int _, (LV.dv (.inr ⟨j, rfl, h⟩) (dats_ivs r)), rfl, pd_shaped (v := .lst (ivs r)) (dats_ivs r) (Nat.le_trans (dep_ivs r) (by decide)), ?_⟩
  simp only [if_true, any_pds]
  exact hp
end AM
namespace FR
open PySem AM
local macro_rules | `(tactic| walk_at "am") => `(tactic| try simp only [st_set0, st_setS, iteTrue, iteFalse, iteDec, iteNDec, exSome, exBl, W_var, W_int, W_bl, W_non, W_str, W_tup, W_lst, W_bin, W_neg, W_cmp, W_isN, W_notN, W_lrev, wIsb, wNisb, W_chain, W_tst, W_ite, W_call, W_len, W_abs, W_isi, W_sub, WT_val, WT_not, WT_and, WT_or, WA_one, WA_cons, WO_one, WO_cons, WB_val, WB_not, WB_and, WB_or, WBA_one, WBA_cons, WBO_one, WBO_cons, WL_nil, WL_cons, WS_set, WS_ret, WS_retN, WS_pass, WS_brk, WS_cont, WS_drop, WS_ite, WS_raise, WSs_nil, Ss_set, Ss_ret, Ss_retN, Ss_pass, Ss_brk, Ss_cont, Ss_drop, Ss_raise, Ss_ite_ret, Ss_ite_retN, Ss_ite_raise, Ss_ite_cont, Ss_ite_brk, Ss_ite_last, gt_0, gt_S, wAdd_int, wSub_int, wMul_int, wMul_rep, wDiv_int, wMod_int, wPow_int, wAdd_str, wNeg_int, wAbs_int, wLt_int, wLe_int, wGt_int, wGe_int, wEq_int, wNe_int, wEq_bl, wNe_bl, wEq_str, wNe_str, wLen_tup, wLen_lst, tru_bl, tru_int, ty_int_int, ty_int_bool, ty_int_str, ty_int_tuple, ty_int_list, ty_int_dict, ty_bl_int, ty_bl_bool, ty_bl_str, ty_bl_tuple, ty_bl_list, ty_bl_dict, ty_str_int, ty_str_bool, ty_str_str, ty_str_tuple, ty_str_list, ty_str_dict, ty_tup_int, ty_tup_bool, ty_tup_str, ty_tup_tuple, ty_tup_list, ty_tup_dict, ty_lst_int, ty_lst_bool, ty_lst_str, ty_lst_tuple, ty_lst_list, ty_lst_dict, ty_dct_int, ty_dct_bool, ty_dct_str, ty_dct_tuple, ty_dct_list, ty_dct_dict, ty_non, sub_tup0, sub_tup1, sub_tup2, sub_tup3, sub_tup4, sub_tup5, sub_lst0, sub_lst1, sub_lst2, sub_lst3, sub_lst4, sub_lst5, startA, List.map_cons, List.map_nil, List.length_cons, List.length_nil, List.replicate, List.cons_append, List.nil_append, true_and, and_true, ne_eq, isNon, Bool.not_true, Bool.not_false, Bool.true_or, Bool.or_true, Bool.false_or, reduceIte, Nat.reduceAdd, Nat.zero_add, Int.cast_ofNat_Int, Int.reduceEq, Int.reduceLT, Int.reduceLE, Nat.reduceLeDiff, decide_true, decide_false, not_true_eq_false, not_false_eq_true, Nat.reduceSub, Int.reduceToNat, W_slice, W_blt, W_mth, W_comp, WOe_none, WOe_some, WI_seq, WI_range1, WI_range2, WI_enum, WI_zip, WI_rev, WT0_none, WT0_some, Ss_asg, Ss_setSub, Ss_aug, WS_asg, WS_aug, WS_for, WS_setC, bT_name, bT_tup, bT_lst, bTs_nil, bTs_name, seq_lst, seq_tup, seq_scr, seq_str, seq_loc, lst_lst, lst_scr, lst_loc, exInt, exLoc, exLst, exLst1, exLV_lst, exLV_loc, mOk_app, mOk_pop, mOk_ext, mOk_ins, mOk_ind, mOk_join, mOk_indl, m_append, m_pop, m_extend, m_insert, m_join, b_listL, b_listT, b_listS, b_listK, b_tupL, b_tupT, b_tupK, b_max2, b_min2, b_ord, b_str, sl_lst, sl_loc, sl_scr, sl_tupE, sl_strE, cat_lst, cat_loc, cat_tup, wLen_scr, wLen_loc, wLen_str, wSub_scr, wSub_loc, wSub_str, aug_add, aug_sub, tru_lst, tru_tup, tru_non, ty_scr_list, sg_p0, sg_pl, ss_p0, ss_pl, ob_set0, ob_set1, ob_set2, ob_set3, ob_g0, ob_g1, ob_g2, ob_g3, List.append_assoc, List.length_append, List.nil_append, Nat.add_zero, Nat.add_assoc, Int.reduceNeg, wipeA, orc_run, orc_glob, orc_init, orc_isa, orc_gdct, W_isc, b_intB, W_glob, W_gget, W_fld, W_mcall, W_make, W_make0, W_dsp, Ss_setFld, subO_l, subO_d, lenO_l, lenO_d, listO_l, listO_d, putO_l, keyV_int, keyV_str, wIn_str, wNotin_str, mapSome, at_0, at_1, at_2, at_3, at_4, at_5, ix_1_0, ix_2_0, ix_2_1, ix_3_0, ix_3_1, ix_3_2, ix_4_0, ix_4_1, ix_4_2, ix_4_3, va_s0, va_s1, va_s2, va_s3])
local macro_rules | `(tactic| walk_at "if") => `(tactic| (try simp only []); rw [Ss_ite]; simp only [st_set0, st_setS, iteTrue, iteFalse, iteDec, iteNDec, exSome, exBl, W_var, W_int, W_bl, W_non, W_str, W_tup, W_lst, W_bin, W_neg, W_cmp, W_isN, W_notN, W_lrev, wIsb, wNisb, W_chain, W_tst, W_ite, W_call, W_len, W_abs, W_isi, W_sub, WT_val, WT_not, WT_and, WT_or, WA_one, WA_cons, WO_one, WO_cons, WB_val, WB_not, WB_and, WB_or, WBA_one, WBA_cons, WBO_one, WBO_cons, WL_nil, WL_cons, WS_set, WS_ret, WS_retN, WS_pass, WS_brk, WS_cont, WS_drop, WS_ite, WS_raise, WSs_nil, Ss_set, Ss_ret, Ss_retN, Ss_pass, Ss_brk, Ss_cont, Ss_drop, Ss_raise, Ss_ite_ret, Ss_ite_retN, Ss_ite_raise, Ss_ite_cont, Ss_ite_brk, Ss_ite_last, gt_0, gt_S, wAdd_int, wSub_int, wMul_int, wMul_rep, wDiv_int, wMod_int, wPow_int, wAdd_str, wNeg_int, wAbs_int, wLt_int, wLe_int, wGt_int, wGe_int, wEq_int, wNe_int, wEq_bl, wNe_bl, wEq_str, wNe_str, wLen_tup, wLen_lst, tru_bl, tru_int, ty_int_int, ty_int_bool, ty_int_str, ty_int_tuple, ty_int_list, ty_int_dict, ty_bl_int, ty_bl_bool, ty_bl_str, ty_bl_tuple, ty_bl_list, ty_bl_dict, ty_str_int, ty_str_bool, ty_str_str, ty_str_tuple, ty_str_list, ty_str_dict, ty_tup_int, ty_tup_bool, ty_tup_str, ty_tup_tuple, ty_tup_list, ty_tup_dict, ty_lst_int, ty_lst_bool, ty_lst_str, ty_lst_tuple, ty_lst_list, ty_lst_dict, ty_dct_int, ty_dct_bool, ty_dct_str, ty_dct_tuple, ty_dct_list, ty_dct_dict, ty_non, sub_tup0, sub_tup1, sub_tup2, sub_tup3, sub_tup4, sub_tup5, sub_lst0, sub_lst1, sub_lst2, sub_lst3, sub_lst4, sub_lst5, startA, List.map_cons, List.map_nil, List.length_cons, List.length_nil, List.replicate, List.cons_append, List.nil_append, true_and, and_true, ne_eq, isNon, Bool.not_true, Bool.not_false, Bool.true_or, Bool.or_true, Bool.false_or, reduceIte, Nat.reduceAdd, Nat.zero_add, Int.cast_ofNat_Int, Int.reduceEq, Int.reduceLT, Int.reduceLE, Nat.reduceLeDiff, decide_true, decide_false, not_true_eq_false, not_false_eq_true, Nat.reduceSub, Int.reduceToNat, W_slice, W_blt, W_mth, W_comp, WOe_none, WOe_some, WI_seq, WI_range1, WI_range2, WI_enum, WI_zip, WI_rev, WT0_none, WT0_some, Ss_asg, Ss_setSub, Ss_aug, WS_asg, WS_aug, WS_for, WS_setC, bT_name, bT_tup, bT_lst, bTs_nil, bTs_name, seq_lst, seq_tup, seq_scr, seq_str, seq_loc, lst_lst, lst_scr, lst_loc, exInt, exLoc, exLst, exLst1, exLV_lst, exLV_loc, mOk_app, mOk_pop, mOk_ext, mOk_ins, mOk_ind, mOk_join, mOk_indl, m_append, m_pop, m_extend, m_insert, m_join, b_listL, b_listT, b_listS, b_listK, b_tupL, b_tupT, b_tupK, b_max2, b_min2, b_ord, b_str, sl_lst, sl_loc, sl_scr, sl_tupE, sl_strE, cat_lst, cat_loc, cat_tup, wLen_scr, wLen_loc, wLen_str, wSub_scr, wSub_loc, wSub_str, aug_add, aug_sub, tru_lst, tru_tup, tru_non, ty_scr_list, sg_p0, sg_pl, ss_p0, ss_pl, ob_set0, ob_set1, ob_set2, ob_set3, ob_g0, ob_g1, ob_g2, ob_g3, List.append_assoc, List.length_append, List.nil_append, Nat.add_zero, Nat.add_assoc, Int.reduceNeg, wipeA, orc_run, orc_glob, orc_init, orc_isa, orc_gdct, W_isc, b_intB, W_glob, W_gget, W_fld, W_mcall, W_make, W_make0, W_dsp, Ss_setFld, subO_l, subO_d, lenO_l, lenO_d, listO_l, listO_d, putO_l, keyV_int, keyV_str, wIn_str, wNotin_str, mapSome, at_0, at_1, at_2, at_3, at_4, at_5, ix_1_0, ix_2_0, ix_2_1, ix_3_0, ix_3_1, ix_3_2, ix_4_0, ix_4_1, ix_4_2, ix_4_3, va_s0, va_s1, va_s2, va_s3])
/-! ### operations, each side of its own size -/
theorem BQ.add2 {n m : Nat} {r q : Rat} (h : BQ n r) (h' : BQ m q) : BQ (n + m + 1) (r + q) := by
  rw [← add_dv]
  exact BQ.of (B.add (h.1.mul h'.2) ((h'.1.mul h.2).mono (by omega))) ((h.2.mul h'.2).mono (by omega)) (Int.mul_ne_zero (den_ne r) (den_ne q))
theorem BQ.sub2 {n m : Nat} {r q : Rat} (h : BQ n r) (h' : BQ m q) : BQ (n + m + 1) (r - q) := by
  rw [← sub_dv]
  exact BQ.of (B.sub (h.1.mul h'.2) ((h'.1.mul h.2).mono (by omega))) ((h.2.mul h'.2).mono (by omega)) (Int.mul_ne_zero (den_ne r) (den_ne q))
theorem BQ.mul2 {n m : Nat} {r q : Rat} (h : BQ n r) (h' : BQ m q) : BQ (n + m) (r * q) := by
  rw [← mul_dv]
  exact BQ.of (h.1.mul h'.1) (h.2.mul h'.2) (Int.mul_ne_zero (den_ne r) (den_ne q))
theorem BQ.div2 {n m : Nat} {r q : Rat} (h : BQ n r) (h' : BQ m q) (h0 : q ≠ 0) : BQ (n + m) (r / q) := by
  rw [← div_dv]
  exact BQ.of (h.1.mul h'.2) (h.2.mul h'.1) (Int.mul_ne_zero (den_ne r) (num_ne h0))
theorem BQ.absQ {n : Nat} {r : Rat} (h : BQ n r) : BQ n r.abs := by
  by_cases h0 : 0 ≤ r
  · rw [Rat.abs_of_nonneg h0]; exact h
  · rw [Rat.abs_of_nonpos (by grind)]; exact h.neg
/-- the defs of shares.py are there -/
structure ShT (T : Tab) : Prop where
  divisor : T "divisor" = some f_divisor
  fraction : T "fraction" = some f_fraction
  plus : T "plus" = some f_plus
  minus : T "minus" = some f_minus
  times : T "times" = some f_times
  less : T "less" = some f_less
section
variable {T : Tab} (t : ShT T) (k : Nat) (r q : Rat) {n m : Nat} (hr : BQ n r) (hq : BQ m q) (hn : n + m ≤ 8990) {S : Sto} {P : PV} {E : PX}
include t hr hq hn
theorem plus2 (h : P (Qv (r + q)) S) : call T (k + 3) "plus" [Qv r, Qv q] S P E := by
  refine call_def t.plus rfl ?_
  unfold f_plus Qv
  walk_at "am"
  refine ⟨hr.1.cmul hq.2 (by omega), hq.1.cmul hr.2 (by omega), hr.2.cmul hq.2 (by omega), ?_⟩
  refine fraction_ok t.divisor t.fraction k _ _ (Int.mul_ne_zero (den_ne r) (den_ne q)) (hr.2.mul hq.2) (by omega) ?_
  rw [add_dv]
  exact fin_keep h
theorem minus2 (h : P (Qv (r - q)) S) : call T (k + 3) "minus" [Qv r, Qv q] S P E := by
  refine call_def t.minus rfl ?_
  unfold f_minus Qv
  walk_at "am"
  refine ⟨hr.1.cmul hq.2 (by omega), hq.1.cmul hr.2 (by omega), hr.2.cmul hq.2 (by omega), ?_⟩
  refine fraction_ok t.divisor t.fraction k _ _ (Int.mul_ne_zero (den_ne r) (den_ne q)) (hr.2.mul hq.2) (by omega) ?_
  rw [sub_dv]
  exact fin_keep h
theorem times2 (h : P (Qv (r * q)) S) : call T (k + 3) "times" [Qv r, Qv q] S P E := by
  refine call_def t.times rfl ?_
  unfold f_times Qv
  walk_at "am"
  refine ⟨hr.1.cmul hq.1 (by omega), hr.2.cmul hq.2 (by omega), ?_⟩
  refine fraction_ok t.divisor t.fraction k _ _ (Int.mul_ne_zero (den_ne r) (den_ne q)) (hr.2.mul hq.2) (by omega) ?_
  rw [mul_dv]
  exact fin_keep h
theorem less2 (h : P (.bl (decide (r < q))) S) : call T (k + 1) "less" [Qv r, Qv q] S P E := by
  refine call_def t.less rfl ?_
  unfold f_less Qv
  walk_at "am"
  refine ⟨hr.1.cmul hq.2 (by omega), hq.1.cmul hr.2 (by omega), fin_keep ?_⟩
  have e : decide (r.num * q.den < q.num * r.den) = decide (r < q) := decide_eq_decide.mpr (lt_cross r q)
  rw [e]; exact h
theorem over2 (t3 : T "over" = some f_over) (h0 : q ≠ 0) (h : P (Qv (r / q)) S) : call T (k + 3) "over" [Qv r, Qv q] S P E := by
  refine call_def t3 rfl ?_
  unfold f_over Qv
  walk_at "am"
  rw [if_neg (num_ne h0)]
  refine ⟨hr.1.cmul hq.2 (by omega), hr.2.cmul hq.1 (by omega), ?_⟩
  refine fraction_ok t.divisor t.fraction k _ _ (Int.mul_ne_zero (den_ne r) (num_ne h0)) (hr.2.mul hq.1) (by omega) ?_
  rw [div_dv]
  exact fin_keep h
end
/-! ### things, bounds, levels -/
structure Itm where
  base : Rat
  least : Rat
  most : Option Rat
  grow : Rat
  shrink : Rat
def Itm.va (t : Itm) : Va := .tup [Qv t.base, Qv t.least, OQ t.most, Qv t.grow, Qv t.shrink]
structure Itm.Sz (m : Nat) (t : Itm) : Prop where
  base : BQ m t.base
  least : BQ m t.least
  most : ∀ q, t.most = some q → BQ m q
  grow : BQ m t.grow
  shrink : BQ m t.shrink
  g0 : 0 ≤ t.grow
  s0 : 0 ≤ t.shrink
def Itm.beg (t : Itm) : Rat := heldR t.base t.least t.most
def Itm.bnd (t : Itm) (g : Bool) : Option Rat := if g = true then match t.most with
  | some q => some (if q < t.least then t.least else q)
  | none => none else some t.least
def Itm.shr (t : Itm) (g : Bool) : Rat := if g = true then t.grow else t.shrink
theorem Itm.Sz.beg {m : Nat} {t : Itm} (h : t.Sz m) : BQ m t.beg := by
  have h1 := h.base
  have h2 := h.least
  have h3 := h.most
  unfold Itm.beg heldR
  split
  · split <;> assumption
  · rename_i q e
    have h4 := h3 q e
    split
    · exact h2
    · split
      · split <;> assumption
      · first | assumption | (split <;> assumption)
theorem Itm.Sz.bnd {m : Nat} {t : Itm} (h : t.Sz m) (g : Bool) (q : Rat) (hq : t.bnd g = some q) : BQ m q := by
  unfold Itm.bnd at hq
  split at hq
  · split at hq
    · rename_i z e
      cases hq
      split
      · exact h.least
      · exact h.most _ e
    · cases hq
  · cases hq; exact h.least
theorem Itm.Sz.shr {m : Nat} {t : Itm} (h : t.Sz m) (g : Bool) : BQ m (t.shr g) ∧ 0 ≤ t.shr g := by
  unfold Itm.shr
  split
  · exact ⟨h.grow, h.g0⟩
  · exact ⟨h.shrink, h.s0⟩
def isB (g : Bool) (w : Rat) : Option Rat → Bool
  | none => false
  | some q => if g = true then decide (q < w) else decide (w < q)
section
variable {T : Tab} (t : ShT T) (k : Nat) {m n : Nat} {S : Sto} {P : PV} {E : PX}
include t
theorem bound_ok (t1 : T "bound_of" = some f_bound_of) (i : Itm) (g : Bool) (hs : i.Sz m) (hm : m ≤ 4000) (h : P (OQ (i.bnd g)) S) : call T (k + 2) "bound_of" [i.va, .bl g] S P E := by
  refine call_def t1 rfl ?_
  unfold f_bound_of Itm.va
  walk_at "am"
  unfold Itm.bnd at h
  cases g with
  | false => rw [if_neg (by decide)] at h; walk_at "am"; exact fin_keep h
  | true =>
    rw [if_pos rfl] at h
    walk_at "am"
    cases e : i.most with
    | none =>
      rw [e] at h
      walk_at "am"
      unfold OQ
      walk_at "am"
      exact fin_keep h
    | some q =>
      rw [e] at h
      unfold OQ
      simp only [Qv]
      walk_at "am"
      refine less2 (n := m) (m := m) t _ q i.least (hs.most q e) hs.least (by omega) ?_
      walk_at "am"
      by_cases hl : q < i.least
      · rw [if_pos hl]; simp only [if_pos hl] at h; exact fin_keep h
      · rw [if_neg hl]; simp only [if_neg hl] at h; exact fin_keep h
theorem moved_ok (t1 : T "moved_by" = some f_moved_by) (w s l : Rat) (g : Bool) (hw : BQ m w) (hs : BQ m s) (hl : BQ n l) (hn : n + m + m ≤ 8900) (h : P (Qv (if g = true then w + s * l else w - s * l)) S) : call T (k + 4) "moved_by" [Qv w, Qv s, Qv l, .bl g] S P E := by
  refine call_def t1 rfl ?_
  unfold f_moved_by
  cases g with
  | false =>
    walk_at "am"
    refine times2 t _ s l hs hl (by omega) ?_
    refine minus2 t _ w (s * l) hw (hs.mul2 hl) (by omega) ?_
    exact fin_keep h
  | true =>
    walk_at "am"
    refine times2 t _ s l hs hl (by omega) ?_
    refine plus2 t _ w (s * l) hw (hs.mul2 hl) (by omega) ?_
    exact fin_keep h
theorem beyond_ok (t1 : T "is_beyond" = some f_is_beyond) (w : Rat) (b : Option Rat) (g : Bool) (hw : BQ n w) (hb : ∀ q, b = some q → BQ m q) (hn : n + m ≤ 8900) (h : P (.bl (isB g w b)) S) : call T (k + 2) "is_beyond" [Qv w, OQ b, .bl g] S P E := by
  refine call_def t1 rfl ?_
  unfold f_is_beyond
  cases b with
  | none =>
    unfold OQ
    walk_at "am"
    exact fin_keep h
  | some q =>
    unfold OQ
    simp only [isB] at h
    cases g with
    | true =>
      rw [if_pos rfl] at h
      walk_at "am"
      simp only [Qv]
      walk_at "am"
      refine less2 t _ q w (hb q rfl) hw (by omega) ?_
      exact fin_keep h
    | false =>
      rw [if_neg (by decide)] at h
      walk_at "am"
      simp only [Qv]
      walk_at "am"
      refine less2 t _ w q hw (hb q rfl) (by omega) ?_
      exact fin_keep h
end
end FR
end

section
set_option linter.all false
set_option maxRecDepth 100000
set_option maxHeartbeats 2000000
/-! A line's room dealt out: the rounds. -/
open PySem
namespace AM
/-- a while by a word with a number that sinks -/
theorem wh_nat {C : Orc} (hC : OrcMono C) {t : Te} {b : Sms} {D : AEnds} {Γ : Env} {S : Sto} (I : Nat → Env → Sto → Prop) (n : Nat) (h0 : I n Γ S)
    (h : ∀ n Γ S, I n Γ S → WT C t Γ S (fun k S1 => if k = true then WSs C b { D with nx := fun Γ' S' => ∃ n', n' < n ∧ I n' Γ' S', ct := fun Γ' S' => ∃ n', n' < n ∧ I n' Γ' S', bk := D.nx } Γ S1 else D.nx Γ S1) (fun x S1 => D.ex x Γ S1)) :
    WS C (.whil t b) D Γ S := by
  have key : ∀ (m n : Nat) (Γ : Env) (S : Sto), I n Γ S → n < m → whN (fun Γ S P => WT C t Γ S P (fun x S1 => D.ex x Γ S1)) (fun Nx Γ S => WSs C b { D with nx := Nx, ct := Nx, bk := D.nx } Γ S) D.nx m Γ S := by
    intro m
    induction m with
    | zero => intro n Γ S _ hm; omega
    | succ m ih =>
      intro n Γ S hI hm
      refine WT_mono hC t Γ S _ _ _ _ (fun k S1 h1 => ?_) (fun _ _ z => z) (h n Γ S hI)
      cases k with
      | false => exact h1
      | true => exact WSs_mono hC b { D with nx := fun Γ' S' => ∃ n', n' < n ∧ I n' Γ' S', ct := fun Γ' S' => ∃ n', n' < n ∧ I n' Γ' S', bk := D.nx } { D with nx := _, ct := _, bk := D.nx } Γ S1 ⟨fun Γ' S' ⟨n', z, q⟩ => ih n' Γ' S' q (by omega), fun _ _ z => z, fun _ _ z => z, fun Γ' S' ⟨n', z, q⟩ => ih n' Γ' S' q (by omega), fun _ _ _ z => z⟩ h1
  exact ⟨n + 1, key _ n Γ S h0 (by omega)⟩
theorem fin_any {S S1 : Sto} {P : PV} {v v' : Va} (hS : ∃ N, S1 = S ++ N) (hz : Fz S1 S.length v v') (h : P v' S) : fin S P v S1 := fin_pure' hS hz h
theorem gset {S : Sto} {k j : Nat} {o : Ob} (h : k ≠ j) : (S.set j o)[k]? = S[k]? := List.getElem?_set_ne (fun z => h z.symm)
theorem gset_self {S : Sto} {j : Nat} {o u : Ob} (h : S[j]? = some u) : (S.set j o)[j]? = some o := by
  rw [List.getElem?_set_self (lt_of_get h)]
theorem set_pre {S S1 : Sto} {k : Nat} {o : Ob} (h : ∃ N, S1 = S ++ N) (hk : S.length ≤ k) : ∃ N, S1.set k o = S ++ N := by
  obtain ⟨N, rfl⟩ := h
  exact ⟨N.set (k - S.length) o, by rw [List.set_append_right _ _ hk]⟩
end AM
namespace FR
open PySem AM
local macro_rules | `(tactic| walk_at "am") => `(tactic| try simp only [st_set0, st_setS, iteTrue, iteFalse, iteDec, iteNDec, exSome, exBl, W_var, W_int, W_bl, W_non, W_str, W_tup, W_lst, W_bin, W_neg, W_cmp, W_isN, W_notN, W_lrev, wIsb, wNisb, W_chain, W_tst, W_ite, W_call, W_len, W_abs, W_isi, W_sub, WT_val, WT_not, WT_and, WT_or, WA_one, WA_cons, WO_one, WO_cons, WB_val, WB_not, WB_and, WB_or, WBA_one, WBA_cons, WBO_one, WBO_cons, WL_nil, WL_cons, WS_set, WS_ret, WS_retN, WS_pass, WS_brk, WS_cont, WS_drop, WS_ite, WS_raise, WSs_nil, Ss_set, Ss_ret, Ss_retN, Ss_pass, Ss_brk, Ss_cont, Ss_drop, Ss_raise, Ss_ite_ret, Ss_ite_retN, Ss_ite_raise, Ss_ite_cont, Ss_ite_brk, Ss_ite_last, gt_0, gt_S, wAdd_int, wSub_int, wMul_int, wMul_rep, wDiv_int, wMod_int, wPow_int, wAdd_str, wNeg_int, wAbs_int, wLt_int, wLe_int, wGt_int, wGe_int, wEq_int, wNe_int, wEq_bl, wNe_bl, wEq_str, wNe_str, wLen_tup, wLen_lst, tru_bl, tru_int, ty_int_int, ty_int_bool, ty_int_str, ty_int_tuple, ty_int_list, ty_int_dict, ty_bl_int, ty_bl_bool, ty_bl_str, ty_bl_tuple, ty_bl_list, ty_bl_dict, ty_str_int, ty_str_bool, ty_str_str, ty_str_tuple, ty_str_list, ty_str_dict, ty_tup_int, ty_tup_bool, ty_tup_str, ty_tup_tuple, ty_tup_list, ty_tup_dict, ty_lst_int, ty_lst_bool, ty_lst_str, ty_lst_tuple, ty_lst_list, ty_lst_dict, ty_dct_int, ty_dct_bool, ty_dct_str, ty_dct_tuple, ty_dct_list, ty_dct_dict, ty_non, sub_tup0, sub_tup1, sub_tup2, sub_tup3, sub_tup4, sub_tup5, sub_lst0, sub_lst1, sub_lst2, sub_lst3, sub_lst4, sub_lst5, startA, List.map_cons, List.map_nil, List.length_cons, List.length_nil, List.replicate, List.cons_append, List.nil_append, true_and, and_true, ne_eq, isNon, Bool.not_true, Bool.not_false, Bool.true_or, Bool.or_true, Bool.false_or, reduceIte, Nat.reduceAdd, Nat.zero_add, Int.cast_ofNat_Int, Int.reduceEq, Int.reduceLT, Int.reduceLE, Nat.reduceLeDiff, decide_true, decide_false, not_true_eq_false, not_false_eq_true, Nat.reduceSub, Int.reduceToNat, W_slice, W_blt, W_mth, W_comp, WOe_none, WOe_some, WI_seq, WI_range1, WI_range2, WI_enum, WI_zip, WI_rev, WT0_none, WT0_some, Ss_asg, Ss_setSub, Ss_aug, WS_asg, WS_aug, WS_for, WS_setC, bT_name, bT_tup, bT_lst, bTs_nil, bTs_name, seq_lst, seq_tup, seq_scr, seq_str, seq_loc, lst_lst, lst_scr, lst_loc, exInt, exLoc, exLst, exLst1, exLV_lst, exLV_loc, mOk_app, mOk_pop, mOk_ext, mOk_ins, mOk_ind, mOk_join, mOk_indl, m_append, m_pop, m_extend, m_insert, m_join, b_listL, b_listT, b_listS, b_listK, b_tupL, b_tupT, b_tupK, b_max2, b_min2, b_ord, b_str, sl_lst, sl_loc, sl_scr, sl_tupE, sl_strE, cat_lst, cat_loc, cat_tup, wLen_scr, wLen_loc, wLen_str, wSub_scr, wSub_loc, wSub_str, aug_add, aug_sub, tru_lst, tru_tup, tru_non, ty_scr_list, sg_p0, sg_pl, ss_p0, ss_pl, ob_set0, ob_set1, ob_set2, ob_set3, ob_g0, ob_g1, ob_g2, ob_g3, List.append_assoc, List.length_append, List.nil_append, Nat.add_zero, Nat.add_assoc, Int.reduceNeg, wipeA, orc_run, orc_glob, orc_init, orc_isa, orc_gdct, W_isc, b_intB, W_glob, W_gget, W_fld, W_mcall, W_make, W_make0, W_dsp, Ss_setFld, subO_l, subO_d, lenO_l, lenO_d, listO_l, listO_d, putO_l, keyV_int, keyV_str, wIn_str, wNotin_str, mapSome, at_0, at_1, at_2, at_3, at_4, at_5, ix_1_0, ix_2_0, ix_2_1, ix_3_0, ix_3_1, ix_3_2, ix_4_0, ix_4_1, ix_4_2, ix_4_3, va_s0, va_s1, va_s2, va_s3])
local macro_rules | `(tactic| walk_at "if") => `(tactic| (try simp only []); rw [Ss_ite]; simp only [st_set0, st_setS, iteTrue, iteFalse, iteDec, iteNDec, exSome, exBl, W_var, W_int, W_bl, W_non, W_str, W_tup, W_lst, W_bin, W_neg, W_cmp, W_isN, W_notN, W_lrev, wIsb, wNisb, W_chain, W_tst, W_ite, W_call, W_len, W_abs, W_isi, W_sub, WT_val, WT_not, WT_and, WT_or, WA_one, WA_cons, WO_one, WO_cons, WB_val, WB_not, WB_and, WB_or, WBA_one, WBA_cons, WBO_one, WBO_cons, WL_nil, WL_cons, WS_set, WS_ret, WS_retN, WS_pass, WS_brk, WS_cont, WS_drop, WS_ite, WS_raise, WSs_nil, Ss_set, Ss_ret, Ss_retN, Ss_pass, Ss_brk, Ss_cont, Ss_drop, Ss_raise, Ss_ite_ret, Ss_ite_retN, Ss_ite_raise, Ss_ite_cont, Ss_ite_brk, Ss_ite_last, gt_0, gt_S, wAdd_int, wSub_int, wMul_int, wMul_rep, wDiv_int, wMod_int, wPow_int, wAdd_str, wNeg_int, wAbs_int, wLt_int, wLe_int, wGt_int, wGe_int, wEq_int, wNe_int, wEq_bl, wNe_bl, wEq_str, wNe_str, wLen_tup, wLen_lst, tru_bl, tru_int, ty_int_int, ty_int_bool, ty_int_str, ty_int_tuple, ty_int_list, ty_int_dict, ty_bl_int, ty_bl_bool, ty_bl_str, ty_bl_tuple, ty_bl_list, ty_bl_dict, ty_str_int, ty_str_bool, ty_str_str, ty_str_tuple, ty_str_list, ty_str_dict, ty_tup_int, ty_tup_bool, ty_tup_str, ty_tup_tuple, ty_tup_list, ty_tup_dict, ty_lst_int, ty_lst_bool, ty_lst_str, ty_lst_tuple, ty_lst_list, ty_lst_dict, ty_dct_int, ty_dct_bool, ty_dct_str, ty_dct_tuple, ty_dct_list, ty_dct_dict, ty_non, sub_tup0, sub_tup1, sub_tup2, sub_tup3, sub_tup4, sub_tup5, sub_lst0, sub_lst1, sub_lst2, sub_lst3, sub_lst4, sub_lst5, startA, List.map_cons, List.map_nil, List.length_cons, List.length_nil, List.replicate, List.cons_append, List.nil_append, true_and, and_true, ne_eq, isNon, Bool.not_true, Bool.not_false, Bool.true_or, Bool.or_true, Bool.false_or, reduceIte, Nat.reduceAdd, Nat.zero_add, Int.cast_ofNat_Int, Int.reduceEq, Int.reduceLT, Int.reduceLE, Nat.reduceLeDiff, decide_true, decide_false, not_true_eq_false, not_false_eq_true, Nat.reduceSub, Int.reduceToNat, W_slice, W_blt, W_mth, W_comp, WOe_none, WOe_some, WI_seq, WI_range1, WI_range2, WI_enum, WI_zip, WI_rev, WT0_none, WT0_some, Ss_asg, Ss_setSub, Ss_aug, WS_asg, WS_aug, WS_for, WS_setC, bT_name, bT_tup, bT_lst, bTs_nil, bTs_name, seq_lst, seq_tup, seq_scr, seq_str, seq_loc, lst_lst, lst_scr, lst_loc, exInt, exLoc, exLst, exLst1, exLV_lst, exLV_loc, mOk_app, mOk_pop, mOk_ext, mOk_ins, mOk_ind, mOk_join, mOk_indl, m_append, m_pop, m_extend, m_insert, m_join, b_listL, b_listT, b_listS, b_listK, b_tupL, b_tupT, b_tupK, b_max2, b_min2, b_ord, b_str, sl_lst, sl_loc, sl_scr, sl_tupE, sl_strE, cat_lst, cat_loc, cat_tup, wLen_scr, wLen_loc, wLen_str, wSub_scr, wSub_loc, wSub_str, aug_add, aug_sub, tru_lst, tru_tup, tru_non, ty_scr_list, sg_p0, sg_pl, ss_p0, ss_pl, ob_set0, ob_set1, ob_set2, ob_set3, ob_g0, ob_g1, ob_g2, ob_g3, List.append_assoc, List.length_append, List.nil_append, Nat.add_zero, Nat.add_assoc, Int.reduceNeg, wipeA, orc_run, orc_glob, orc_init, orc_isa, orc_gdct, W_isc, b_intB, W_glob, W_gget, W_fld, W_mcall, W_make, W_make0, W_dsp, Ss_setFld, subO_l, subO_d, lenO_l, lenO_d, listO_l, listO_d, putO_l, keyV_int, keyV_str, wIn_str, wNotin_str, mapSome, at_0, at_1, at_2, at_3, at_4, at_5, ix_1_0, ix_2_0, ix_2_1, ix_3_0, ix_3_1, ix_3_2, ix_4_0, ix_4_1, ix_4_2, ix_4_3, va_s0, va_s1, va_s2, va_s3])
structure DlT (T : Tab) : Prop extends ShT T where
  held : T "held" = some f_held
  total : T "total" = some f_total
  over : T "over" = some f_over
  bound_of : T "bound_of" = some f_bound_of
  level_of : T "level_of" = some f_level_of
  moved_by : T "moved_by" = some f_moved_by
  is_beyond : T "is_beyond" = some f_is_beyond
  dealt : T "dealt" = some f_dealt
def wv (n : Nat) (W : Nat → Rat) : List Va := ((List.range n).map W).map Qv
def bv (n : Nat) (b : Nat → Option Rat) : List Va := (List.range n).map fun k => OQ (b k)
def sumW (n : Nat) (W : Nat → Rat) : Rat := sumQ ((List.range n).map W)
def it0 : Itm := ⟨0, 0, none, 0, 0⟩
def nth (its : List Itm) (k : Nat) : Itm := its.getD k it0
theorem nth_get {its : List Itm} {k : Nat} {i : Itm} (h : its[k]? = some i) : nth its k = i := by
  unfold nth; rw [List.getD_eq_getElem?_getD, h]; rfl
theorem nth_mem {its : List Itm} {k : Nat} (h : k < its.length) : nth its k ∈ its := by
  have : its[k]? = some its[k] := by simp [h]
  rw [nth_get this]; exact List.getElem_mem h
theorem wv_get {n k : Nat} {W : Nat → Rat} (h : k < n) : (wv n W)[k]? = some (Qv (W k)) := by
  unfold wv; simp [h]
theorem bv_get {n k : Nat} {b : Nat → Option Rat} (h : k < n) : (bv n b)[k]? = some (OQ (b k)) := by
  unfold bv; simp [h]
theorem wv_len {n : Nat} {W : Nat → Rat} : (wv n W).length = n := by simp [wv]
theorem wv_snoc {n : Nat} {W : Nat → Rat} : wv (n + 1) W = wv n W ++ [Qv (W n)] := by simp [wv, List.range_succ]
theorem bv_snoc {n : Nat} {b : Nat → Option Rat} : bv (n + 1) b = bv n b ++ [OQ (b n)] := by simp [bv, List.range_succ]
theorem wv_set {n k : Nat} {W : Nat → Rat} {q : Rat} : (wv n W).set k (Qv q) = wv n (fun j => if j = k then q else W j) := by
  apply List.ext_getElem?
  intro j
  by_cases hj : j < n
  · rw [wv_get hj]
    by_cases e : j = k
    · subst e
      rw [List.getElem?_set_self (by rw [wv_len]; exact hj), if_pos rfl]
    · rw [List.getElem?_set_ne (fun z => e z.symm), wv_get hj, if_neg e]
  · rw [List.getElem?_eq_none (by rw [List.length_set, wv_len]; omega), List.getElem?_eq_none (by rw [wv_len]; omega)]
theorem wv_congr {n : Nat} {W V : Nat → Rat} (h : ∀ k, k < n → W k = V k) : wv n W = wv n V := by
  unfold wv
  congr 1
  exact List.map_congr_left fun k hk => h k (List.mem_range.mp hk)
theorem ivs_get {r : List Nat} {i : Nat} {x : Va} (h : (ivs r)[i]? = some x) : ∃ j, r[i]? = some j ∧ x = .int (j : Nat) := by
  unfold ivs at h
  rw [List.getElem?_map] at h
  obtain ⟨j, h1, h2⟩ := Option.map_eq_some_iff.mp h
  exact ⟨j, h1, h2.symm⟩
theorem ivs_len {r : List Nat} : (ivs r).length = r.length := by simp [ivs]
/-! ### the rounds, as numbers -/
def lev (n : Nat) (room : Rat) (s W : Nat → Rat) (left : List Nat) : Rat := (room - sumW n W).abs / sumQ (left.map s)
def wayR (g : Bool) (s W : Nat → Rat) (l : Rat) (k : Nat) : Rat := if g = true then W k + s k * l else W k - s k * l
def bey (n : Nat) (room : Rat) (g : Bool) (s : Nat → Rat) (b : Nat → Option Rat) (W : Nat → Rat) (left : List Nat) : List Nat :=
  left.filter fun k => isB g (wayR g s W (lev n room s W left) k) (b k)
def setB (b : Nat → Option Rat) (W : Nat → Rat) (r : List Nat) : Nat → Rat := fun k => if k ∈ r then (b k).getD 0 else W k
def setL (F W : Nat → Rat) (r : List Nat) : Nat → Rat := fun k => if k ∈ r then F k else W k
inductive Rnd (n : Nat) (room : Rat) (g : Bool) (s : Nat → Rat) (b : Nat → Option Rat) : (Nat → Rat) → List Nat → (Nat → Rat) → Option Rat → List (List Nat) → Prop
  | out (W : Nat → Rat) : Rnd n room g s b W [] W none []
  | done (W : Nat → Rat) (left : List Nat) : left ≠ [] → bey n room g s b W left = [] → Rnd n room g s b W left (setL (wayR g s W (lev n room s W left)) W left) (some (lev n room s W left)) []
  | step (W : Nat → Rat) (left : List Nat) (W' : Nat → Rat) (lv : Option Rat) (rs : List (List Nat)) : left ≠ [] → bey n room g s b W left ≠ [] →
      Rnd n room g s b (setB b W (bey n room g s b W left)) (left.filter fun k => !decide (k ∈ bey n room g s b W left)) W' lv rs → Rnd n room g s b W left W' lv (bey n room g s b W left :: rs)
theorem sumQ_nonneg : ∀ {qs : List Rat}, (∀ q ∈ qs, 0 ≤ q) → 0 ≤ sumQ qs := by
  intro qs
  refine snoc_ind (P := fun qs => (∀ q ∈ qs, 0 ≤ q) → 0 ≤ sumQ qs) ?_ ?_ qs
  · intro _; exact Rat.le_refl
  · intro xs x ih h
    rw [sumQ_snoc]
    have h1 := ih fun q hq => h q (List.mem_append_left _ hq)
    have h2 := h x (by simp)
    grind
theorem sumQ_pos {qs : List Rat} (h : ∀ q ∈ qs, 0 < q) (hn : qs ≠ []) : 0 < sumQ qs := by
  rcases List.eq_nil_or_concat qs with e | ⟨xs, x, e⟩
  · exact absurd e hn
  · rw [e, List.concat_eq_append, sumQ_snoc]
    rw [e, List.concat_eq_append] at h
    have h1 := sumQ_nonneg (qs := xs) fun q hq => by have := h q (List.mem_append_left _ hq); grind
    have h2 := h x (by simp)
    grind
theorem Qabs (r : Rat) : (Va.tup [.int (if r.num < 0 then -r.num else r.num), .int r.den]) = Qv r.abs := by
  unfold Qv
  by_cases h : 0 ≤ r
  · have h1 := Rat.num_nonneg.mpr h
    rw [Rat.abs_of_nonneg h, if_neg (by omega)]
  · have h1 : ¬ 0 ≤ r.num := fun z => h (Rat.num_nonneg.mp z)
    rw [Rat.abs_of_nonpos (by grind), if_pos (by omega), Rat.neg_num, Rat.neg_den]
section
variable {T : Tab} (t : DlT T)
include t
theorem level_ok (k n : Nat) (room : Rat) (s W : Nat → Rat) (left : List Nat) {m rm : Nat} (hW : ∀ j, j < n → BQ m (W j)) (hsz : ∀ j, j < n → BQ m (s j)) (hl : ∀ j ∈ left, j < n ∧ 0 < s j) (hn : left ≠ []) (hll : left.length ≤ n) (hr : BQ rm room)
    (h1 : n * (m + 1) + m + 1 ≤ 4000) (h2 : 2 * (n * (m + 1) + 1) + rm + 3 * m + 5 ≤ 8900) {u1 u2 u3 : Va} {S : Sto} {P : PV} {E : PX} (v1 : LV S u1 (wv n W)) (v2 : LV S u2 (wv n s)) (v3 : LV S u3 (ivs left))
    (h : P (Qv (lev n room s W left)) S) : call T (k + 5) "level_of" [u1, u2, u3, Qv room] S P E := by
  refine call_def t.level_of rfl ?_
  unfold f_level_of
  walk_at "am"
  have hsW : ∀ q ∈ (List.range n).map W, BQ m q := fun q hq => by
    obtain ⟨j, h1, rfl⟩ := List.mem_map.mp hq
    exact hW j (List.mem_range.mp h1)
  have hss : ∀ q ∈ left.map s, BQ m q := fun q hq => by
    obtain ⟨j, h1, rfl⟩ := List.mem_map.mp hq
    exact hsz j (hl j h1).1
  have hpos : 0 < sumQ (left.map s) := sumQ_pos (fun q hq => by
    obtain ⟨j, h1, rfl⟩ := List.mem_map.mp hq
    exact (hl j h1).2) (by simpa using hn)
  have bW := sumQ_B hsW
  have bs := sumQ_B hss
  rw [List.length_map, List.length_range] at bW
  rw [List.length_map] at bs
  have hmul : left.length * (m + 1) ≤ n * (m + 1) := Nat.mul_le_mul_right _ hll
  refine total_ok t.divisor t.fraction t.plus t.total k _ hsW (by rw [List.length_map, List.length_range]; exact h1) v1 ?_
  refine minus2 t.toShT (k + 1) room (sumQ ((List.range n).map W)) hr bW (by omega) ?_
  have bd := hr.sub2 bW
  have he : (room - sumQ ((List.range n).map W)) = room - sumW n W := rfl
  rw [he] at bd ⊢
  unfold lev at h
  generalize room - sumW n W = d at *
  unfold Qv
  walk_at "am"
  refine v3.seq fun G hG => ⟨hG _ kept_app, ?_⟩
  refine cpL_inv (call_mono _ _) (fun i acc => acc = ((left.take i).map s).map Qv) (fun acc => hG _ kept_app) rfl ?_ ?_
  · rintro i x acc hx rfl
    obtain ⟨j, hj, rfl⟩ := ivs_get hx
    refine ⟨_, rfl, ?_⟩
    walk_at "am"
    have hjn := (hl j (List.mem_of_getElem? hj)).1
    refine (v2.more _).sub (L2.atI_nat (wv_get hjn)) ?_
    refine ⟨rfl, ?_, ?_⟩
    · have := lt_of_get hj
      simp
      have h9 : n ≤ n * (m + 1) := Nat.le_mul_of_pos_right n (by omega)
      omega
    · rw [take_snoc hj]; simp
  · rintro acc rfl
    have e : ((left.take (ivs left).length).map s) = left.map s := by
      have : (ivs left).length = left.length := by simp [ivs]
      rw [this, List.take_length]
    rw [e]
    refine total_ok t.divisor t.fraction t.plus t.total k _ hss (by rw [List.length_map]; omega) LV.here ?_
    rw [Qabs]
    refine over2 t.toShT _ d.abs (sumQ (left.map s)) bd.absQ bs (by omega) t.over (by grind) ?_
    exact fin_val (plQ _) h
end
end FR
end

section
set_option linter.all false
set_option maxRecDepth 100000
set_option maxHeartbeats 4000000
/-! A line's room dealt out: dealt itself. -/
open PySem
namespace FR
open PySem AM
local macro_rules | `(tactic| walk_at "am") => `(tactic| try simp only [st_set0, st_setS, iteTrue, iteFalse, iteDec, iteNDec, exSome, exBl, W_var, W_int, W_bl, W_non, W_str, W_tup, W_lst, W_bin, W_neg, W_cmp, W_isN, W_notN, W_lrev, wIsb, wNisb, W_chain, W_tst, W_ite, W_call, W_len, W_abs, W_isi, W_sub, WT_val, WT_not, WT_and, WT_or, WA_one, WA_cons, WO_one, WO_cons, WB_val, WB_not, WB_and, WB_or, WBA_one, WBA_cons, WBO_one, WBO_cons, WL_nil, WL_cons, WS_set, WS_ret, WS_retN, WS_pass, WS_brk, WS_cont, WS_drop, WS_ite, WS_raise, WSs_nil, Ss_set, Ss_ret, Ss_retN, Ss_pass, Ss_brk, Ss_cont, Ss_drop, Ss_raise, Ss_ite_ret, Ss_ite_retN, Ss_ite_raise, Ss_ite_cont, Ss_ite_brk, Ss_ite_last, gt_0, gt_S, wAdd_int, wSub_int, wMul_int, wMul_rep, wDiv_int, wMod_int, wPow_int, wAdd_str, wNeg_int, wAbs_int, wLt_int, wLe_int, wGt_int, wGe_int, wEq_int, wNe_int, wEq_bl, wNe_bl, wEq_str, wNe_str, wLen_tup, wLen_lst, tru_bl, tru_int, ty_int_int, ty_int_bool, ty_int_str, ty_int_tuple, ty_int_list, ty_int_dict, ty_bl_int, ty_bl_bool, ty_bl_str, ty_bl_tuple, ty_bl_list, ty_bl_dict, ty_str_int, ty_str_bool, ty_str_str, ty_str_tuple, ty_str_list, ty_str_dict, ty_tup_int, ty_tup_bool, ty_tup_str, ty_tup_tuple, ty_tup_list, ty_tup_dict, ty_lst_int, ty_lst_bool, ty_lst_str, ty_lst_tuple, ty_lst_list, ty_lst_dict, ty_dct_int, ty_dct_bool, ty_dct_str, ty_dct_tuple, ty_dct_list, ty_dct_dict, ty_non, sub_tup0, sub_tup1, sub_tup2, sub_tup3, sub_tup4, sub_tup5, sub_lst0, sub_lst1, sub_lst2, sub_lst3, sub_lst4, sub_lst5, startA, List.map_cons, List.map_nil, List.length_cons, List.length_nil, List.replicate, List.cons_append, List.nil_append, true_and, and_true, ne_eq, isNon, Bool.not_true, Bool.not_false, Bool.true_or, Bool.or_true, Bool.false_or, reduceIte, Nat.reduceAdd, Nat.zero_add, Int.cast_ofNat_Int, Int.reduceEq, Int.reduceLT, Int.reduceLE, Nat.reduceLeDiff, decide_true, decide_false, not_true_eq_false, not_false_eq_true, Nat.reduceSub, Int.reduceToNat, W_slice, W_blt, W_mth, W_comp, WOe_none, WOe_some, WI_seq, WI_range1, WI_range2, WI_enum, WI_zip, WI_rev, WT0_none, WT0_some, Ss_asg, Ss_setSub, Ss_aug, WS_asg, WS_aug, WS_for, WS_setC, bT_name, bT_tup, bT_lst, bTs_nil, bTs_name, seq_lst, seq_tup, seq_scr, seq_str, seq_loc, lst_lst, lst_scr, lst_loc, exInt, exLoc, exLst, exLst1, exLV_lst, exLV_loc, mOk_app, mOk_pop, mOk_ext, mOk_ins, mOk_ind, mOk_join, mOk_indl, m_append, m_pop, m_extend, m_insert, m_join, b_listL, b_listT, b_listS, b_listK, b_tupL, b_tupT, b_tupK, b_max2, b_min2, b_ord, b_str, sl_lst, sl_loc, sl_scr, sl_tupE, sl_strE, cat_lst, cat_loc, cat_tup, wLen_scr, wLen_loc, wLen_str, wSub_scr, wSub_loc, wSub_str, aug_add, aug_sub, tru_lst, tru_tup, tru_non, ty_scr_list, sg_p0, sg_pl, ss_p0, ss_pl, ob_set0, ob_set1, ob_set2, ob_set3, ob_g0, ob_g1, ob_g2, ob_g3, List.append_assoc, List.length_append, List.nil_append, Nat.add_zero, Nat.add_assoc, Int.reduceNeg, wipeA, orc_run, orc_glob, orc_init, orc_isa, orc_gdct, W_isc, b_intB, W_glob, W_gget, W_fld, W_mcall, W_make, W_make0, W_dsp, Ss_setFld, subO_l, subO_d, lenO_l, lenO_d, listO_l, listO_d, putO_l, keyV_int, keyV_str, wIn_str, wNotin_str, mapSome, at_0, at_1, at_2, at_3, at_4, at_5, ix_1_0, ix_2_0, ix_2_1, ix_3_0, ix_3_1, ix_3_2, ix_4_0, ix_4_1, ix_4_2, ix_4_3, va_s0, va_s1, va_s2, va_s3])
local macro_rules | `(tactic| walk_at "if") => `(tactic| (try simp only []); rw [Ss_ite]; simp only [st_set0, st_setS, iteTrue, iteFalse, iteDec, iteNDec, exSome, exBl, W_var, W_int, W_bl, W_non, W_str, W_tup, W_lst, W_bin, W_neg, W_cmp, W_isN, W_notN, W_lrev, wIsb, wNisb, W_chain, W_tst, W_ite, W_call, W_len, W_abs, W_isi, W_sub, WT_val, WT_not, WT_and, WT_or, WA_one, WA_cons, WO_one, WO_cons, WB_val, WB_not, WB_and, WB_or, WBA_one, WBA_cons, WBO_one, WBO_cons, WL_nil, WL_cons, WS_set, WS_ret, WS_retN, WS_pass, WS_brk, WS_cont, WS_drop, WS_ite, WS_raise, WSs_nil, Ss_set, Ss_ret, Ss_retN, Ss_pass, Ss_brk, Ss_cont, Ss_drop, Ss_raise, Ss_ite_ret, Ss_ite_retN, Ss_ite_raise, Ss_ite_cont, Ss_ite_brk, Ss_ite_last, gt_0, gt_S, wAdd_int, wSub_int, wMul_int, wMul_rep, wDiv_int, wMod_int, wPow_int, wAdd_str, wNeg_int, wAbs_int, wLt_int, wLe_int, wGt_int, wGe_int, wEq_int, wNe_int, wEq_bl, wNe_bl, wEq_str, wNe_str, wLen_tup, wLen_lst, tru_bl, tru_int, ty_int_int, ty_int_bool, ty_int_str, ty_int_tuple, ty_int_list, ty_int_dict, ty_bl_int, ty_bl_bool, ty_bl_str, ty_bl_tuple, ty_bl_list, ty_bl_dict, ty_str_int, ty_str_bool, ty_str_str, ty_str_tuple, ty_str_list, ty_str_dict, ty_tup_int, ty_tup_bool, ty_tup_str, ty_tup_tuple, ty_tup_list, ty_tup_dict, ty_lst_int, ty_lst_bool, ty_lst_str, ty_lst_tuple, ty_lst_list, ty_lst_dict, ty_dct_int, ty_dct_bool, ty_dct_str, ty_dct_tuple, ty_dct_list, ty_dct_dict, ty_non, sub_tup0, sub_tup1, sub_tup2, sub_tup3, sub_tup4, sub_tup5, sub_lst0, sub_lst1, sub_lst2, sub_lst3, sub_lst4, sub_lst5, startA, List.map_cons, List.map_nil, List.length_cons, List.length_nil, List.replicate, List.cons_append, List.nil_append, true_and, and_true, ne_eq, isNon, Bool.not_true, Bool.not_false, Bool.true_or, Bool.or_true, Bool.false_or, reduceIte, Nat.reduceAdd, Nat.zero_add, Int.cast_ofNat_Int, Int.reduceEq, Int.reduceLT, Int.reduceLE, Nat.reduceLeDiff, decide_true, decide_false, not_true_eq_false, not_false_eq_true, Nat.reduceSub, Int.reduceToNat, W_slice, W_blt, W_mth, W_comp, WOe_none, WOe_some, WI_seq, WI_range1, WI_range2, WI_enum, WI_zip, WI_rev, WT0_none, WT0_some, Ss_asg, Ss_setSub, Ss_aug, WS_asg, WS_aug, WS_for, WS_setC, bT_name, bT_tup, bT_lst, bTs_nil, bTs_name, seq_lst, seq_tup, seq_scr, seq_str, seq_loc, lst_lst, lst_scr, lst_loc, exInt, exLoc, exLst, exLst1, exLV_lst, exLV_loc, mOk_app, mOk_pop, mOk_ext, mOk_ins, mOk_ind, mOk_join, mOk_indl, m_append, m_pop, m_extend, m_insert, m_join, b_listL, b_listT, b_listS, b_listK, b_tupL, b_tupT, b_tupK, b_max2, b_min2, b_ord, b_str, sl_lst, sl_loc, sl_scr, sl_tupE, sl_strE, cat_lst, cat_loc, cat_tup, wLen_scr, wLen_loc, wLen_str, wSub_scr, wSub_loc, wSub_str, aug_add, aug_sub, tru_lst, tru_tup, tru_non, ty_scr_list, sg_p0, sg_pl, ss_p0, ss_pl, ob_set0, ob_set1, ob_set2, ob_set3, ob_g0, ob_g1, ob_g2, ob_g3, List.append_assoc, List.length_append, List.nil_append, Nat.add_zero, Nat.add_assoc, Int.reduceNeg, wipeA, orc_run, orc_glob, orc_init, orc_isa, orc_gdct, W_isc, b_intB, W_glob, W_gget, W_fld, W_mcall, W_make, W_make0, W_dsp, Ss_setFld, subO_l, subO_d, lenO_l, lenO_d, listO_l, listO_d, putO_l, keyV_int, keyV_str, wIn_str, wNotin_str, mapSome, at_0, at_1, at_2, at_3, at_4, at_5, ix_1_0, ix_2_0, ix_2_1, ix_3_0, ix_3_1, ix_3_2, ix_4_0, ix_4_1, ix_4_2, ix_4_3, va_s0, va_s1, va_s2, va_s3])
/-- the rounds' lists in the store -/
inductive RL (S : Sto) (n0 : Nat) : List Va → List (List Nat) → Prop
  | nil : RL S n0 [] []
  | cons {p : Nat} {r : List Nat} {rl : List Va} {acc : List (List Nat)} : n0 + 4 < p → S[p]? = some (.lst (ivs r)) → RL S n0 rl acc → RL S n0 (.loc p :: rl) (r :: acc)
theorem RL.snoc {S : Sto} {n0 p : Nat} {r : List Nat} : ∀ {rl acc}, RL S n0 rl acc → n0 + 4 < p → S[p]? = some (.lst (ivs r)) → RL S n0 (rl ++ [.loc p]) (acc ++ [r])
  | _, _, .nil, h1, h2 => .cons h1 h2 .nil
  | _, _, .cons a b c, h1, h2 => .cons a b (c.snoc h1 h2)
theorem RL.keep {S S' : Sto} {n0 : Nat} (h : ∀ p o, n0 + 4 < p → S[p]? = some o → S'[p]? = some o) : ∀ {rl acc}, RL S n0 rl acc → RL S' n0 rl acc
  | _, _, .nil => .nil
  | _, _, .cons a b c => .cons a (h _ _ a b) (c.keep h)
theorem RL.len {S : Sto} {n0 : Nat} : ∀ {rl acc}, RL S n0 rl acc → rl.length = acc.length
  | _, _, .nil => rfl
  | _, _, .cons a b c => by rw [List.length_cons, List.length_cons, c.len]
theorem RL.fz {S : Sto} {n0 : Nat} : ∀ {rl acc}, RL S n0 rl acc → Fzs S n0 rl (acc.map fun r => .lst (ivs r))
  | _, _, .nil => rfl
  | _, _, .cons (p := p) (r := r) a b c => ⟨.loc p, _, rfl, ⟨ivs r, .inr ⟨p, rfl, by omega, b⟩, fzs_pl (pls_ivs r)⟩, c.fz⟩
theorem pls_wv (n : Nat) (W : Nat → Rat) : pls (wv n W) = true := plsQ _
/-- what is told at the end, the store as it is then -/
def Told (S : Sto) (P : PV) (n : Nat) (W : Nat → Rat) (lv : Option Rat) (rs : List (List Nat)) : Prop :=
  ∀ S', (∃ N, S' = S ++ N) → S'[S.length]? = some (.lst (wv n W)) → (∃ rl, S'[S.length + 4]? = some (.lst rl) ∧ RL S' S.length rl rs) → fin S P (.tup [.loc S.length, OQ lv, .loc (S.length + 4)]) S'
/-- what stands ahead of each turn -/
structure Bs (S : Sto) (n : Nat) (s : Nat → Rat) (b : Nat → Option Rat) (W : Nat → Rat) (left : List Nat) (l : Nat) (acc : List (List Nat)) (S' : Sto) : Prop where
  pre : ∃ N, S' = S ++ N
  ws : S'[S.length]? = some (.lst (wv n W))
  ss : S'[S.length + 1]? = some (.lst (wv n s))
  bs : S'[S.length + 2]? = some (.lst (bv n b))
  lf : S'[l]? = some (.lst (ivs left))
  l1 : l ≠ S.length
  l2 : l ≠ S.length + 4
  rl : ∃ rl, S'[S.length + 4]? = some (.lst rl) ∧ RL S' S.length rl acc
section
variable {S S' : Sto} {n l : Nat} {s W : Nat → Rat} {b : Nat → Option Rat} {left : List Nat} {acc : List (List Nat)}
theorem Bs.app (h : Bs S n s b W left l acc S') (N : Sto) : Bs S n s b W left l acc (S' ++ N) := by
  obtain ⟨rl, h1, h2⟩ := h.rl
  obtain ⟨M, hM⟩ := h.pre
  exact ⟨⟨M ++ N, by rw [hM, List.append_assoc]⟩, kept_app _ _ h.ws, kept_app _ _ h.ss, kept_app _ _ h.bs, kept_app _ _ h.lf, h.l1, h.l2, rl, kept_app _ _ h1, h2.keep fun p o _ z => kept_app _ _ z⟩
theorem Bs.setW (h : Bs S n s b W left l acc S') (V : Nat → Rat) : Bs S n s b V left l acc (S'.set S.length (.lst (wv n V))) := by
  obtain ⟨rl, h1, h2⟩ := h.rl
  refine ⟨set_pre h.pre (Nat.le_refl _), gset_self h.ws, ?_, ?_, ?_, h.l1, h.l2, rl, ?_, h2.keep fun p o hp z => ?_⟩
  · rw [gset (by omega)]; exact h.ss
  · rw [gset (by omega)]; exact h.bs
  · rw [gset h.l1]; exact h.lf
  · rw [gset (by omega)]; exact h1
  · rw [gset (by omega)]; exact z
theorem Bs.setR (h : Bs S n s b W left l acc S') {rl : List Va} {acc' : List (List Nat)} (hr : RL S' S.length rl acc') : Bs S n s b W left l acc' (S'.set (S.length + 4) (.lst rl)) := by
  obtain ⟨rl0, h1, h2⟩ := h.rl
  refine ⟨set_pre h.pre (Nat.le_add_right _ _), ?_, ?_, ?_, ?_, h.l1, h.l2, rl, gset_self h1, hr.keep fun p o hp z => ?_⟩
  · rw [gset (by omega)]; exact h.ws
  · rw [gset (by omega)]; exact h.ss
  · rw [gset (by omega)]; exact h.bs
  · rw [gset h.l2]; exact h.lf
  · rw [gset (by omega)]; exact z
theorem Bs.newL (h : Bs S n s b W left l acc S') {l' : Nat} {left' : List Nat} (h1 : S'[l']? = some (.lst (ivs left'))) (h2 : S.length + 4 < l') : Bs S n s b W left' l' acc S' :=
  ⟨h.pre, h.ws, h.ss, h.bs, h1, by omega, by omega, h.rl⟩
theorem Bs.newW (h : Bs S n s b W left l acc S') {V : Nat → Rat} (e : ∀ k, k < n → W k = V k) : Bs S n s b V left l acc S' :=
  ⟨h.pre, by rw [← wv_congr e]; exact h.ws, h.ss, h.bs, h.lf, h.l1, h.l2, h.rl⟩
theorem Bs.long (h : Bs S n s b W left l acc S') : S.length + 4 < S'.length := by
  obtain ⟨rl, h1, _⟩ := h.rl
  exact lt_of_get h1
end
theorem putO_at {xs : List Va} {j : Nat} {u : Va} (h : j < xs.length) : putO (.lst xs) (.int (j : Nat)) u = some (.lst (xs.set j u)) := by
  rw [putO_l, ixn h]; rfl
theorem setL_snoc {F W : Nat → Rat} {r : List Nat} {i j : Nat} (h : r[i]? = some j) (k : Nat) : (if k = j then F j else setL F W (r.take i) k) = setL F W (r.take (i + 1)) k := by
  unfold setL
  rw [take_snoc h]
  by_cases e : k = j
  · subst e; simp
  · simp [e]
theorem filter_snoc {r : List Nat} {p : Nat → Bool} {i j : Nat} (h : r[i]? = some j) : (r.take (i + 1)).filter p = (r.take i).filter p ++ (if p j = true then [j] else []) := by
  rw [take_snoc h, List.filter_append]
  congr 1
  cases hp : p j <;> simp [hp]
section
variable {T : Tab} (t : DlT T)
include t
theorem dealt_raw (k : Nat) (its : List Itm) (room : Rat) {m rm : Nat} (hs : ∀ i ∈ its, i.Sz m) (hr : BQ rm room) (h1 : its.length * (m + 1) + m + 1 ≤ 4000) (h2 : 2 * (its.length * (m + 1) + 1) + rm + 3 * m + 5 ≤ 8900)
    {v : Va} {S : Sto} {P : PV} {E : PX} (hv : LV S v (its.map Itm.va)) {B : Nat → Rat} (hB : B = fun k => (nth its k).beg)
    (p0 : room = sumW its.length B → fin S P (.tup [.loc S.length, Qv 0, .loc (S.length + 1)]) (S ++ [.lst (wv its.length B), .lst []]))
    (p1 : room ≠ sumW its.length B → ∀ g, g = decide (0 < room - sumW its.length B) → ∀ W lv rs, Rnd its.length room g (fun k => (nth its k).shr g) (fun k => (nth its k).bnd g) B ((List.range its.length).filter fun k => !decide ((nth its k).shr g = 0)) W lv rs →
      Told S P its.length W lv rs) : call T (k + 6) "dealt" [v, Qv room] S P E := by
  refine call_def t.dealt rfl ?_
  have hn : its.length ≤ 4000 := by
    have h9 : its.length ≤ its.length * (m + 1) := Nat.le_mul_of_pos_right _ (by omega)
    omega
  have hm : m ≤ 4000 := by omega
  generalize hnn : its.length = n at *
  have hsn : ∀ j, j < n → (nth its j).Sz m := fun j hj => hs _ (nth_mem (by omega))
  have get_it : ∀ {i : Nat} {x : Va}, (its.map Itm.va)[i]? = some x → i < n ∧ x = (nth its i).va := fun {i x} h => by
    rw [List.getElem?_map] at h
    obtain ⟨it, h1, h2⟩ := Option.map_eq_some_iff.mp h
    have := lt_of_get h1
    exact ⟨by omega, by rw [nth_get h1]; exact h2.symm⟩
  have hBm : ∀ j, j < n → BQ m (B j) := fun j hj => by rw [hB]; exact (hsn j hj).beg
  have hmul : its.length = n := hnn
  unfold f_dealt
  refine seq_to (call_mono _ _) [some v, some (Qv room), some (.loc S.length), none, none, none, none, none, none, none, none, none, none, none] (S ++ [.lst (wv n B)]) ?_ ?_
  · walk_at "am"
    refine hv.seq fun G hG => ⟨hG _ kept_app, ?_⟩
    refine cpL_inv (call_mono _ _) (fun i acc => acc = wv i B) (fun acc => hG _ kept_app) rfl ?_ ?_
    · rintro i x acc hx rfl
      obtain ⟨hi, rfl⟩ := get_it hx
      refine ⟨_, rfl, ?_⟩
      have hz := hsn i hi
      unfold Itm.va
      walk_at "am"
      refine held_ok t.less t.held _ _ _ _ (n := m) hz.base hz.least hz.most hm ?_
      refine ⟨rfl, by rw [wv_len]; omega, ?_⟩
      rw [wv_snoc, hB]; rfl
    rintro acc rfl
    rw [List.length_map, hnn]
    exact ⟨rfl, rfl⟩
  walk_at "am"
  have hsW : ∀ q ∈ (List.range n).map B, BQ m q := fun q hq => by
    obtain ⟨j, h1, rfl⟩ := List.mem_map.mp hq
    exact hBm j (List.mem_range.mp h1)
  have bW := sumQ_B hsW
  rw [List.length_map, List.length_range] at bW
  refine total_ok t.divisor t.fraction t.plus t.total _ _ hsW (by rw [List.length_map, List.length_range]; exact h1) LV.here ?_
  refine minus2 t.toShT _ room (sumQ ((List.range n).map B)) hr bW (by omega) ?_
  have he : (room - sumQ ((List.range n).map B)) = room - sumW n B := rfl
  have bd := hr.sub2 bW
  rw [he] at bd ⊢
  have e0 : (Va.tup [.int 0, .int 1]) = Qv 0 := rfl
  rw [e0, eqQ]
  have b0 : BQ 1 (0 : Rat) := ⟨(show (0 : Nat) < 2 ^ 1 by decide), (show (1 : Nat) < 2 ^ 1 by decide)⟩
  walk_at "am"
  by_cases hd0 : room - sumW n B = 0
  · rw [if_pos hd0]
    have e1 : room = sumW n B := by grind
    exact p0 e1
  rw [if_neg hd0]
  have e1 : room ≠ sumW n B := fun z => hd0 (by rw [z]; grind)
  have p2 := p1 e1 _ rfl
  clear p0 p1
  refine less2 t.toShT _ 0 (room - sumW n B) b0 bd (by omega) ?_
  generalize hg : decide (0 < room - sumW n B) = g at *
  generalize hs' : (fun k => (nth its k).shr g) = s at *
  generalize hb' : (fun k => (nth its k).bnd g) = b at *
  have hsm : ∀ j, j < n → BQ m (s j) ∧ 0 ≤ s j := fun j hj => by rw [← hs']; exact (hsn j hj).shr g
  have hbm : ∀ j, j < n → ∀ q, b j = some q → BQ m q := fun j hj q hq => by rw [← hb'] at hq; exact (hsn j hj).bnd g q hq
  have hs2 : ∀ j, (nth its j).shr g = s j := fun j => by rw [← hs']
  simp only [hs2] at p2
  generalize hmi : room - sumW n B = miss at *
  -- shares
  refine (hv.more _).seq fun G2 hG2 => ⟨hG2 _ kept_app, ?_⟩
  refine cpL_inv (call_mono _ _) (fun i acc => acc = wv i s) (fun acc => hG2 _ kept_app) rfl ?_ ?_
  · rintro i x acc hx rfl
    obtain ⟨hi, rfl⟩ := get_it hx
    refine ⟨_, rfl, ?_⟩
    unfold Itm.va
    walk_at "am"
    have hl : (wv i s).length < 1000000 := by rw [wv_len]; omega
    have e : s i = if g = true then (nth its i).grow else (nth its i).shrink := by rw [← hs']; rfl
    cases g with
    | true => exact ⟨hl, by rw [wv_snoc, e]; rfl⟩
    | false => exact ⟨hl, by rw [wv_snoc, e]; rfl⟩
  rintro acc rfl
  rw [List.length_map, hnn]
  -- bounds
  refine ((hv.more _).more _).seq fun G3 hG3 => ⟨hG3 _ kept_app, ?_⟩
  refine cpL_inv (call_mono _ _) (fun i acc => acc = bv i b) (fun acc => hG3 _ kept_app) rfl ?_ ?_
  · rintro i x acc hx rfl
    obtain ⟨hi, rfl⟩ := get_it hx
    refine ⟨_, rfl, ?_⟩
    walk_at "am"
    refine bound_ok t.toShT _ t.bound_of _ g (hsn i hi) hm ?_
    refine ⟨rfl, by simp [bv]; omega, ?_⟩
    rw [bv_snoc, ← hb']
  rintro acc rfl
  rw [List.length_map, hnn]
  walk_at "am"
  -- who is left
  refine seq_to (call_mono _ _) [some v, some (Qv room), some (.loc S.length), none, some (Qv miss), some (.bl g), some (.loc (S.length + 1)), some (.loc (S.length + 2)), some (.loc (S.length + 3)), none, none, none, none, none] (S ++ [.lst (wv n B), .lst (wv n s), .lst (bv n b), .lst (ivs ((List.range n).filter fun k => !decide (s k = 0)))]) ?_ ?_
  · walk_at "am"
    refine (hv.more _).len ?_
    rw [List.length_map, hnn]
    refine ⟨(n : Int), rfl, by omega, by omega, ?_⟩
    refine cpL_inv (call_mono _ _) (fun i acc => acc = ivs ((List.range i).filter fun k => !decide (s k = 0))) (fun acc => trivial) rfl ?_ ?_
    · rintro i x acc hx rfl
      obtain ⟨hi, rfl⟩ := rangeV_get hx
      have hi' : i < n := by omega
      refine ⟨_, rfl, ?_⟩
      rw [show (0 + (i : Int)) = ((i : Nat) : Int) by omega]
      walk_at "am"
      refine ⟨_, L2.atI_nat (wv_get hi'), ?_⟩
      rw [e0, neQ]
      walk_at "am"
      rw [List.range_succ, List.filter_append]
      by_cases h0 : s i = 0
      · simp [h0]
      · have hlen : ((List.range i).filter fun k => !decide (s k = 0)).length ≤ i := by
          have := List.length_filter_le (fun k => !decide (s k = 0)) (List.range i)
          rwa [List.length_range] at this
        simp [h0]
        refine ⟨by rw [ivs_len]; omega, by simp [ivs, iv]⟩
    rintro acc rfl
    rw [rangeV_len, show ((n : Nat) : Int).toNat = n by omega]
    exact ⟨by simp, by simp⟩
  walk_at "am"
  -- the rounds
  refine seq_cut (call_mono _ _) (fun Γ S2 => ∃ W l acc kk lv wy be, Bs S n s b W [] l acc S2 ∧ (∀ W' lv rs, Rnd n room g s b W [] W' lv rs → Told S P n W' lv (acc ++ rs)) ∧
    Γ = [some v, some (Qv room), some (.loc S.length), none, some (Qv miss), some (.bl g), some (.loc (S.length + 1)), some (.loc (S.length + 2)), some (.loc l), kk, some (.loc (S.length + 4)), lv, wy, be]) ?_ ?_
  rotate_left
  · rintro Γ S2 ⟨W, l, acc, kk, lv, wy, be, hb2, hp, rfl⟩
    walk_at "am"
    obtain ⟨rl, r1, r2⟩ := hb2.rl
    have hq := hp W none [] (.out W)
    rw [List.append_nil] at hq
    exact hq _ hb2.pre hb2.ws ⟨rl, r1, r2⟩
  refine wh_nat (call_mono _ _) (fun N Γ S2 => ∃ W left l acc kk lv wy be, N = left.length ∧ Bs S n s b W left l acc S2 ∧ (∀ j ∈ left, j < n ∧ 0 < s j) ∧ left.length ≤ n ∧ (∀ j, j < n → BQ m (W j)) ∧ acc.length + left.length ≤ n ∧ (∀ W' lv rs, Rnd n room g s b W left W' lv rs → Told S P n W' lv (acc ++ rs)) ∧
    Γ = [some v, some (Qv room), some (.loc S.length), none, some (Qv miss), some (.bl g), some (.loc (S.length + 1)), some (.loc (S.length + 2)), some (.loc l), kk, some (.loc (S.length + 4)), lv, wy, be]) ((List.range n).filter fun k => !decide (s k = 0)).length ?_ ?_
  · refine ⟨B, _, S.length + 3, [], none, none, none, none, rfl, ⟨⟨_, rfl⟩, ?_, ?_, ?_, ?_, by omega, by omega, [], ?_, .nil⟩, ?_, ?_, hBm, ?_, fun W' lv rs hR => p2 W' lv rs hR, rfl⟩
    · rw [sg_p0]; rfl
    · rw [sg_pl]; rfl
    · rw [sg_pl]; rfl
    · rw [sg_pl]; rfl
    · rw [sg_pl]; rfl
    · intro j hj
      rw [List.mem_filter, List.mem_range] at hj
      have h0 : ¬ s j = 0 := by simpa using hj.2
      have := (hsm j hj.1).2
      exact ⟨hj.1, by grind⟩
    · have := List.length_filter_le (fun k => !decide (s k = 0)) (List.range n)
      rwa [List.length_range] at this
    · have := List.length_filter_le (fun k => !decide (s k = 0)) (List.range n)
      rw [List.length_range] at this
      simpa using this
  rintro N Γ S2 ⟨W, left, l, acc, kk, lv, wy, be, rfl, hB2, hL, hLn, hW, hacc, hp, rfl⟩
  walk_at "am"
  have hB3 := hB2.app [Ob.lst []]
  refine ne_nil (.inr ⟨_, rfl, hB3.lf⟩) LV.here (dats_ivs _) (Nat.le_trans (dep_ivs _) (by decide)) ?_
  refine ⟨_, rfl, ?_⟩
  clear hB2
  generalize (S2 ++ [Ob.lst []]) = S3 at *
  by_cases hne : left = []
  · subst hne
    exact ⟨W, l, acc, kk, lv, wy, be, hB3, hp, rfl⟩
  rw [show (!(ivs left).isEmpty) = true by cases left with | nil => exact absurd rfl hne | cons a r => rfl, if_pos rfl]
  refine level_ok t _ n room s W left hW (fun j hj => (hsm j hj).1) hL hne hLn hr h1 h2 (.inr ⟨_, rfl, hB3.ws⟩) (.inr ⟨_, rfl, hB3.ss⟩) (.inr ⟨_, rfl, hB3.lf⟩) ?_
  have hlevB : BQ (2 * (n * (m + 1) + 1) + rm + 1) (lev n room s W left) := by
    unfold lev
    have hss : ∀ q ∈ left.map s, BQ m q := fun q hq => by
      obtain ⟨j, h1, rfl⟩ := List.mem_map.mp hq
      exact (hsm j (hL j h1).1).1
    have hsW2 : ∀ q ∈ (List.range n).map W, BQ m q := fun q hq => by
      obtain ⟨j, h1, rfl⟩ := List.mem_map.mp hq
      exact hW j (List.mem_range.mp h1)
    have hpos : 0 < sumQ (left.map s) := sumQ_pos (fun q hq => by
      obtain ⟨j, h1, rfl⟩ := List.mem_map.mp hq
      exact (hL j h1).2) (by simpa using hne)
    have bW2 := sumQ_B hsW2
    have bs2 := sumQ_B hss
    rw [List.length_map, List.length_range] at bW2
    rw [List.length_map] at bs2
    have hmul2 : left.length * (m + 1) ≤ n * (m + 1) := Nat.mul_le_mul_right _ hLn
    exact ((hr.sub2 bW2).absQ.div2 bs2 (by grind)).mono (by omega)
  have hdef : ∀ p : Nat → Bool, (p = fun k => isB g (wayR g s W (lev n room s W left) k) (b k)) → bey n room g s b W left = left.filter p := fun p e => by rw [e]; rfl
  have hdone := Rnd.done (n := n) (room := room) (g := g) (s := s) (b := b) W left hne
  have hstep := Rnd.step (n := n) (room := room) (g := g) (s := s) (b := b) W left
  generalize lev n room s W left = lq at *
  have hwB : ∀ j ∈ left, BQ (2 * (n * (m + 1) + 1) + rm + 1 + m + m + 1) (wayR g s W lq j) := fun j hj => by
    have h7 := hW j (hL j hj).1
    have h8 := ((hsm j (hL j hj).1).1).mul2 hlevB
    unfold wayR
    split
    · exact (h7.add2 h8).mono (by omega)
    · exact (h7.sub2 h8).mono (by omega)
  have hBn0 := hB3.long
  refine ⟨[], rfl, by decide, ?_⟩
  refine seq_cut (call_mono _ _) (fun Γ S4 => ∃ kvs kk, S4 = S3 ++ [.dct kvs] ∧ (∀ j ∈ left, dget kvs (.inl (j : Nat)) = some (Qv (wayR g s W lq j))) ∧ Γ = [some v, some (Qv room), some (.loc S.length), none, some (Qv miss), some (.bl g), some (.loc (S.length + 1)), some (.loc (S.length + 2)), some (.loc l), kk, some (.loc (S.length + 4)), some (Qv lq), some (.loc S3.length), be]) ?_ ?_
  · walk_at "am"
    refine ⟨ivs left, kept_app _ _ hB3.lf, kept_app _ _ hB3.lf, ?_⟩
    refine for_ix (call_mono _ _) (fun i Γ S4 => ∃ kvs kk, S4 = S3 ++ [.dct kvs] ∧ kvs.length ≤ i ∧ (∀ j ∈ left.take i, dget kvs (.inl (j : Nat)) = some (Qv (wayR g s W lq j))) ∧ Γ = [some v, some (Qv room), some (.loc S.length), none, some (Qv miss), some (.bl g), some (.loc (S.length + 1)), some (.loc (S.length + 2)), some (.loc l), kk, some (.loc (S.length + 4)), some (Qv lq), some (.loc S3.length), be]) ?_ ?_ ?_
    · exact ⟨[], kk, rfl, Nat.le_refl _, by simp, rfl⟩
    · rintro i x Γ S4 hx ⟨kvs, kk, rfl, hk1, hk2, rfl⟩
      obtain ⟨j, hj, rfl⟩ := ivs_get hx
      have hjn := (hL j (List.mem_of_getElem? hj)).1
      have hi := lt_of_get hj
      refine ⟨_, rfl, ?_⟩
      walk_at "am"
      refine ⟨_, kept_app _ _ hB3.ws, ?_⟩
      walk_at "am"
      refine ⟨_, L2.atI_nat (wv_get hjn), _, kept_app _ _ hB3.ss, ?_⟩
      walk_at "am"
      refine ⟨_, L2.atI_nat (wv_get hjn), ?_⟩
      refine moved_ok t.toShT _ t.moved_by (W j) (s j) lq g (hW j hjn) (hsm j hjn).1 hlevB (by omega) ?_
      refine ⟨.dct kvs, by rw [sg_p0]; rfl, _, putO_d rfl (by omega), ?_⟩
      rw [ss_p0]
      refine ⟨kept_app _ _ hB3.lf, _, _, rfl, Nat.le_trans dput_len (by omega), ?_, rfl⟩
      intro j' hj'
      rw [dget_dput]
      by_cases e : j' = j
      · subst e; rw [if_pos rfl]; rfl
      · have e2 : ¬ (Sum.inl (j' : Int) : L2.Key) = Sum.inl (j : Int) := fun z => e (by injection z with z; omega)
        rw [if_neg e2]
        rw [take_snoc hj] at hj'
        rcases List.mem_append.mp hj' with z | z
        · exact hk2 j' z
        · exact absurd (List.mem_singleton.mp z) e
    · rintro Γ S4 ⟨kvs, kk, rfl, hk1, hk2, rfl⟩
      rw [ivs_len, List.take_length] at hk2
      exact ⟨kvs, kk, rfl, hk2, rfl⟩
  rintro Γ S4 ⟨kvs, kk, hS4, hk2, rfl⟩
  have hB4 := hB3.app [.dct kvs]
  rw [← hS4] at hB4
  have hd4 : S4[S3.length]? = some (.dct kvs) := by rw [hS4, sg_p0]; rfl
  generalize hdl : S3.length = d at *
  clear hS4 hB3 hdl
  -- beyond
  obtain ⟨p, hpd⟩ : ∃ p : Nat → Bool, p = fun k => isB g (wayR g s W lq k) (b k) := ⟨_, rfl⟩
  have hbe := hdef p hpd
  clear hdef
  rw [hbe] at hdone hstep
  have hpj : ∀ j, isB g (wayR g s W lq j) (b j) = p j := fun j => by rw [hpd]
  refine seq_to (call_mono _ _) [some v, some (Qv room), some (.loc S.length), none, some (Qv miss), some (.bl g), some (.loc (S.length + 1)), some (.loc (S.length + 2)), some (.loc l), kk, some (.loc (S.length + 4)), some (Qv lq), some (.loc d), some (.loc S4.length)] (S4 ++ [.lst (ivs (left.filter p))]) ?_ ?_
  · walk_at "am"
    refine ⟨ivs left, hB4.lf, kept_app _ _ hB4.lf, ?_⟩
    refine cpL_inv (call_mono _ _) (fun i acc => acc = ivs ((left.take i).filter p)) (fun acc => kept_app _ _ hB4.lf) rfl ?_ ?_
    · rintro i x ac hx rfl
      obtain ⟨j, hj, rfl⟩ := ivs_get hx
      have hjm := List.mem_of_getElem? hj
      have hjn := (hL j hjm).1
      have hi := lt_of_get hj
      refine ⟨_, rfl, ?_⟩
      walk_at "am"
      refine ⟨_, kept_app _ _ hd4, ?_⟩
      walk_at "am"
      refine ⟨_, hk2 j hjm, _, kept_app _ _ hB4.bs, ?_⟩
      walk_at "am"
      refine ⟨_, L2.atI_nat (bv_get hjn), ?_⟩
      refine beyond_ok t.toShT _ t.is_beyond _ (b j) g (hwB j hjm) (hbm j hjn) (by omega) ?_
      rw [hpj]
      refine ⟨_, rfl, rfl, ?_⟩
      rw [filter_snoc hj]
      have hlen := List.length_filter_le p (left.take i)
      rw [List.length_take] at hlen
      cases p j with
      | true => exact ⟨by rw [ivs_len]; omega, by simp [ivs, iv]⟩
      | false => simp
    rintro ac rfl
    rw [ivs_len, List.take_length]
    exact ⟨rfl, rfl⟩
  have hB5 := hB4.app [.lst (ivs (left.filter p))]
  have hd5 : (S4 ++ [Ob.lst (ivs (left.filter p))])[d]? = some (.dct kvs) := kept_app _ _ hd4
  have he5 : (S4 ++ [Ob.lst (ivs (left.filter p))])[S4.length]? = some (.lst (ivs (left.filter p))) := by rw [sg_p0]; rfl
  have hel := hB4.long
  generalize hS5 : S4 ++ [Ob.lst (ivs (left.filter p))] = S5 at *
  generalize hee : S4.length = e at *
  clear hS5 hB4 hd4
  walk_at "if"
  have hB6 := hB5.app [Ob.lst []]
  refine eq_nil (.inr ⟨_, rfl, kept_app _ _ he5⟩) LV.here (dats_ivs _) (Nat.le_trans (dep_ivs _) (by decide)) ?_
  refine ⟨_, rfl, ?_⟩
  have hd6 : (S5 ++ [Ob.lst []])[d]? = some (.dct kvs) := kept_app _ _ hd5
  have he6 : (S5 ++ [Ob.lst []])[e]? = some (.lst (ivs (left.filter p))) := kept_app _ _ he5
  generalize S5 ++ [Ob.lst []] = S6 at *
  clear hB5 hd5 he5
  by_cases hbn : left.filter p = []
  · rw [hbn]
    simp only [ivs, List.map_nil, List.isEmpty_nil, if_true]
    refine seq_cut (call_mono _ _) (fun Γ S7 => ∃ kk, Bs S n s b (setL (wayR g s W lq) W left) left l acc S7 ∧ Γ = [some v, some (Qv room), some (.loc S.length), none, some (Qv miss), some (.bl g), some (.loc (S.length + 1)), some (.loc (S.length + 2)), some (.loc l), kk, some (.loc (S.length + 4)), some (Qv lq), some (.loc d), some (.loc e)]) ?_ ?_
    · walk_at "am"
      refine ⟨ivs left, hB6.lf, hB6.lf, ?_⟩
      refine for_ix (call_mono _ _) (fun i Γ S7 => ∃ kk, Bs S n s b (setL (wayR g s W lq) W (left.take i)) left l acc S7 ∧ S7[d]? = some (.dct kvs) ∧ Γ = [some v, some (Qv room), some (.loc S.length), none, some (Qv miss), some (.bl g), some (.loc (S.length + 1)), some (.loc (S.length + 2)), some (.loc l), kk, some (.loc (S.length + 4)), some (Qv lq), some (.loc d), some (.loc e)]) ?_ ?_ ?_
      · exact ⟨kk, hB6.newW fun k _ => by simp [setL], hd6, rfl⟩
      · rintro i x Γ S7 hx ⟨kk, hB7, hd7, rfl⟩
        obtain ⟨j, hj, rfl⟩ := ivs_get hx
        have hjm := List.mem_of_getElem? hj
        have hjn := (hL j hjm).1
        refine ⟨_, rfl, ?_⟩
        walk_at "am"
        refine ⟨_, hd7, ?_⟩
        walk_at "am"
        refine ⟨_, hk2 j hjm, _, hB7.ws, _, putO_at (by rw [wv_len]; exact hjn), ?_⟩
        rw [wv_set]
        have hB8 := (hB7.setW (fun k => if k = j then wayR g s W lq j else setL (wayR g s W lq) W (left.take i) k))
        refine ⟨hB8.lf, _, hB8.newW fun k _ => setL_snoc hj k, ?_, rfl⟩
        rw [gset (by omega)]; exact hd7
      · rintro Γ S7 ⟨kk, hB7, hd7, rfl⟩
        rw [ivs_len, List.take_length] at hB7
        exact ⟨kk, hB7, rfl⟩
    rintro Γ S7 ⟨kk, hB7, rfl⟩
    walk_at "am"
    obtain ⟨rl, r1, r2⟩ := hB7.rl
    have hq := hp _ _ _ (hdone hbn)
    rw [List.append_nil] at hq
    exact hq _ hB7.pre hB7.ws ⟨rl, r1, r2⟩
  have hbs : ∀ j ∈ left.filter p, j < n ∧ ∃ q, b j = some q := fun j hj => by
    rw [List.mem_filter] at hj
    refine ⟨(hL j hj.1).1, ?_⟩
    have := hj.2
    rw [← hpj] at this
    cases hb : b j with
    | none => rw [hb] at this; cases this
    | some q => exact ⟨q, rfl⟩
  have hsub : ∀ j ∈ left.filter p, j ∈ left := fun j hj => (List.mem_filter.mp hj).1
  have hstep2 := fun W' lv rs => hstep W' lv rs hne hbn
  clear hstep hdone hbe hpj hpd
  generalize left.filter p = bs at *
  rw [show (ivs bs).isEmpty = false by cases bs with | nil => exact absurd rfl hbn | cons a r => rfl]
  walk_at "am"
  refine seq_cut (call_mono _ _) (fun Γ S7 => ∃ kk, Bs S n s b (setB b W bs) left l acc S7 ∧ S7[e]? = some (.lst (ivs bs)) ∧ Γ = [some v, some (Qv room), some (.loc S.length), none, some (Qv miss), some (.bl g), some (.loc (S.length + 1)), some (.loc (S.length + 2)), some (.loc l), kk, some (.loc (S.length + 4)), some (Qv lq), some (.loc d), some (.loc e)]) ?_ ?_
  · walk_at "am"
    refine ⟨ivs bs, he6, he6, ?_⟩
    refine for_ix (call_mono _ _) (fun i Γ S7 => ∃ kk, Bs S n s b (setL (fun k => (b k).getD 0) W (bs.take i)) left l acc S7 ∧ S7[e]? = some (.lst (ivs bs)) ∧ Γ = [some v, some (Qv room), some (.loc S.length), none, some (Qv miss), some (.bl g), some (.loc (S.length + 1)), some (.loc (S.length + 2)), some (.loc l), kk, some (.loc (S.length + 4)), some (Qv lq), some (.loc d), some (.loc e)]) ?_ ?_ ?_
    · exact ⟨kk, hB6.newW fun k _ => by simp [setL], he6, rfl⟩
    · rintro i x Γ S7 hx ⟨kk, hB7, he7, rfl⟩
      obtain ⟨j, hj, rfl⟩ := ivs_get hx
      have hjm := List.mem_of_getElem? hj
      obtain ⟨hjn, q, hq⟩ := hbs j hjm
      refine ⟨_, rfl, ?_⟩
      walk_at "am"
      refine ⟨_, hB7.bs, ?_⟩
      walk_at "am"
      refine ⟨_, L2.atI_nat (bv_get hjn), _, hB7.ws, _, putO_at (by rw [wv_len]; exact hjn), ?_⟩
      rw [hq, show OQ (some q) = Qv q from rfl, wv_set]
      have hB8 := (hB7.setW (fun k => if k = j then q else setL (fun k => (b k).getD 0) W (bs.take i) k))
      have he8 : (S7.set S.length (.lst (wv n (fun k => if k = j then q else setL (fun k => (b k).getD 0) W (bs.take i) k))))[e]? = some (.lst (ivs bs)) := by
        rw [gset (by omega)]; exact he7
      refine ⟨he8, _, hB8.newW fun k _ => ?_, he8, rfl⟩
      have := setL_snoc (F := fun k => (b k).getD 0) (W := W) hj k
      rw [hq] at this
      exact this
    · rintro Γ S7 ⟨kk, hB7, he7, rfl⟩
      rw [ivs_len, List.take_length] at hB7
      exact ⟨kk, hB7, he7, rfl⟩
  rintro Γ S7 ⟨kk, hB7, he7, rfl⟩
  obtain ⟨rl, r1, r2⟩ := hB7.rl
  have hrl := r2.len
  have hB8 := hB7.setR (r2.snoc hel he7)
  have he8 : (S7.set (S.length + 4) (.lst (rl ++ [.loc e])))[e]? = some (.lst (ivs bs)) := by rw [gset (by omega)]; exact he7
  walk_at "am"
  refine ⟨⟨rl, r1⟩, rl, r1, by omega, ?_⟩
  clear hB7 he7 hB6 hd6 he6 r1 r2
  generalize S7.set (S.length + 4) (.lst (rl ++ [.loc e])) = S8 at *
  clear hrl
  rw [WSs_cons]
  walk_at "am"
  refine ⟨ivs left, hB8.lf, kept_app _ _ hB8.lf, ?_⟩
  refine cpL_inv (call_mono _ _) (fun i ac => ac = ivs ((left.take i).filter fun k => !decide (k ∈ bs))) (fun ac => kept_app _ _ hB8.lf) rfl ?_ ?_
  · rintro i x ac hx rfl
    obtain ⟨j, hj, rfl⟩ := ivs_get hx
    have hi := lt_of_get hj
    refine ⟨_, rfl, ?_⟩
    walk_at "am"
    refine notin_ivs (kept_app _ _ he8) ?_
    refine ⟨_, rfl, rfl, ?_⟩
    rw [filter_snoc hj]
    have hlen := List.length_filter_le (fun k => !decide (k ∈ bs)) (left.take i)
    rw [List.length_take] at hlen
    by_cases hjb : j ∈ bs
    · simp [hjb]
    · simp [hjb]
      exact ⟨by rw [ivs_len]; omega, by simp [ivs, iv]⟩
  rintro ac rfl
  rw [ivs_len, List.take_length]
  have hlt : (left.filter fun k => !decide (k ∈ bs)).length < left.length := by
    rw [List.length_filter_lt_length_iff_exists]
    cases bs with
    | nil => exact absurd rfl hbn
    | cons a r => exact ⟨a, hsub a (by simp), by simp⟩
  refine ⟨_, hlt, setB b W bs, _, S8.length, acc ++ [bs], kk, _, _, _, rfl, (hB8.app _).newL (by rw [sg_p0]; rfl) hB8.long, ?_, by omega, ?_, ?_, ?_, rfl⟩
  · intro j hj
    exact hL j (List.mem_filter.mp hj).1
  · intro j hj
    unfold setB
    split
    · rename_i z
      obtain ⟨_, q, hq⟩ := hbs j z
      rw [hq]
      exact hbm j hj q hq
    · exact hW j hj
  · rw [List.length_append, List.length_singleton]; omega
  · intro W' lv rs hR
    have := hp W' lv _ (hstep2 W' lv rs hR)
    rw [List.append_assoc]
    exact this
theorem dealt_ok (k : Nat) (its : List Itm) (room : Rat) {m rm : Nat} (hs : ∀ i ∈ its, i.Sz m) (hr : BQ rm room) (h1 : its.length * (m + 1) + m + 1 ≤ 4000) (h2 : 2 * (its.length * (m + 1) + 1) + rm + 3 * m + 5 ≤ 8900)
    {v : Va} {S : Sto} {P : PV} {E : PX} (hv : LV S v (its.map Itm.va)) {B : Nat → Rat} (hB : B = fun k => (nth its k).beg)
    (p0 : room = sumW its.length B → P (.tup [.lst (wv its.length B), Qv 0, .lst []]) S)
    (p1 : room ≠ sumW its.length B → ∀ g, g = decide (0 < room - sumW its.length B) → ∀ W lv rs, Rnd its.length room g (fun k => (nth its k).shr g) (fun k => (nth its k).bnd g) B ((List.range its.length).filter fun k => !decide ((nth its k).shr g = 0)) W lv rs →
      P (.tup [.lst (wv its.length W), OQ lv, .lst (rs.map fun r => .lst (ivs r))]) S) : call T (k + 6) "dealt" [v, Qv room] S P E := by
  refine dealt_raw t k its room hs hr h1 h2 hv hB (fun e1 => ?_) (fun e1 g hg W lv rs hR => fun S' hp hw ⟨rl, r1, r2⟩ => ?_)
  · refine fin_pure (v' := .tup [.lst (wv its.length B), Qv 0, .lst []]) ?_ (p0 e1)
    refine ⟨_, rfl, _, _, rfl, ⟨wv its.length B, .inr ⟨_, rfl, Nat.le_refl _, by rw [sg_p0]; rfl⟩, fzs_pl (pls_wv its.length B)⟩, _, _, rfl, fz_pl rfl, _, _, rfl, ⟨[], .inr ⟨_, rfl, by omega, ?_⟩, rfl⟩, rfl⟩
    rw [sg_pl]; rfl
  · refine fin_any hp (v' := .tup [.lst (wv its.length W), OQ lv, .lst (rs.map fun r => .lst (ivs r))]) ?_ (p1 e1 g hg W lv rs hR)
    have hl : pl (OQ lv) = true := by cases lv <;> rfl
    exact ⟨_, rfl, _, _, rfl, ⟨wv its.length W, .inr ⟨_, rfl, Nat.le_refl _, hw⟩, fzs_pl (pls_wv its.length _)⟩, _, _, rfl, fz_pl hl, _, _, rfl, ⟨rl, .inr ⟨_, rfl, by omega, r1⟩, r2.fz⟩, rfl⟩
end
end FR
end

section
set_option linter.all false
set_option maxRecDepth 100000
set_option maxHeartbeats 2000000
/-! The laws' own fractions. -/
open PySem
namespace AQ
open AM
def f_l_cell_at : Fn := ⟨["_law_script", "_law_k"], ["_law_script", "_law_k", "_law_lap", "_law_cell"],
  (.cons (.ite (.val (.cmp .eq (.len (.var 0)) (.int 0))) (.cons (.ret (.int 0))
  .nil) .nil)
  (.cons (.set 2 (.bin .fdiv (.var 1) (.len (.var 0))))
  (.cons (.set 3 (.sub (.var 0) (.bin .mod (.var 1) (.len (.var 0)))))
  (.cons (.ite (.val (.cmp .eq (.var 2) (.int 0))) (.cons (.ret (.var 3))
  .nil) .nil)
  (.cons (.ret (.bin .add (.bin .mod (.bin .mul (.var 3) (.bin .add (.bin .mul (.int 2) (.var 2)) (.int 1))) (.int 1000003)) (.bin .mul (.int 31) (.var 2))))
  .nil)))))⟩
def f_l_low : Fn := ⟨["_law_top", "_law_bottom"], ["_law_top", "_law_bottom", "_law_one", "_law_other", "_law_rest"],
  (.cons (.set 2 (.var 0))
  (.cons (.set 3 (.var 1))
  (.cons (.whil (.val (.cmp .ne (.var 3) (.int 0))) (.cons (.set 4 (.bin .mod (.var 2) (.var 3)))
  (.cons (.set 2 (.var 3))
  (.cons (.set 3 (.var 4))
  .nil))))
  (.cons (.ret (.tup (.cons (.bin .fdiv (.var 0) (.var 2)) (.cons (.bin .fdiv (.var 1) (.var 2)) .nil))))
  .nil))))⟩
def f_l_sum : Fn := ⟨["_law_one", "_law_other"], ["_law_one", "_law_other"],
  (.cons (.ret (.call "_law_low" (.cons (.bin .add (.bin .mul (.sub (.var 0) (.int 0)) (.sub (.var 1) (.int 1))) (.bin .mul (.sub (.var 1) (.int 0)) (.sub (.var 0) (.int 1)))) (.cons (.bin .mul (.sub (.var 0) (.int 1)) (.sub (.var 1) (.int 1))) .nil))))
  .nil)⟩
def f_l_less : Fn := ⟨["_law_one", "_law_other"], ["_law_one", "_law_other"],
  (.cons (.ret (.cmp .lt (.bin .mul (.sub (.var 0) (.int 0)) (.sub (.var 1) (.int 1))) (.bin .mul (.sub (.var 1) (.int 0)) (.sub (.var 0) (.int 1)))))
  .nil)⟩
def f_l_begin : Fn := ⟨["_law_item"], ["_law_item", "_law_base", "_law_least", "_law_most", "_law_grow", "_law_shrink"],
  (.cons (.asg (.tup (.cons (.name 1) (.cons (.name 2) (.cons (.name 3) (.cons (.name 4) (.cons (.name 5) .nil)))))) (.var 0))
  (.cons (.ite (.and (.cons (.val (.notN (.var 3))) (.one (.val (.call "_law_less" (.cons (.var 3) (.cons (.var 1) .nil))))))) (.cons (.set 1 (.var 3))
  .nil) .nil)
  (.cons (.ite (.val (.call "_law_less" (.cons (.var 1) (.cons (.var 2) .nil)))) (.cons (.ret (.var 2))
  .nil) .nil)
  (.cons (.ret (.var 1))
  .nil))))⟩
def f_l_bound : Fn := ⟨["_law_item", "_law_grows"], ["_law_item", "_law_grows", "_law_base", "_law_least", "_law_most", "_law_grow", "_law_shrink"],
  (.cons (.asg (.tup (.cons (.name 2) (.cons (.name 3) (.cons (.name 4) (.cons (.name 5) (.cons (.name 6) .nil)))))) (.var 0))
  (.cons (.ite (.not (.val (.var 1))) (.cons (.ret (.var 3))
  .nil) .nil)
  (.cons (.ite (.and (.cons (.val (.notN (.var 4))) (.one (.val (.call "_law_less" (.cons (.var 4) (.cons (.var 3) .nil))))))) (.cons (.ret (.var 3))
  .nil) .nil)
  (.cons (.ret (.var 4))
  .nil))))⟩
end AQ
namespace FR
open PySem AM
local macro_rules | `(tactic| walk_at "am") => `(tactic| try simp only [st_set0, st_setS, iteTrue, iteFalse, iteDec, iteNDec, exSome, exBl, W_var, W_int, W_bl, W_non, W_str, W_tup, W_lst, W_bin, W_neg, W_cmp, W_isN, W_notN, W_lrev, wIsb, wNisb, W_chain, W_tst, W_ite, W_call, W_len, W_abs, W_isi, W_sub, WT_val, WT_not, WT_and, WT_or, WA_one, WA_cons, WO_one, WO_cons, WB_val, WB_not, WB_and, WB_or, WBA_one, WBA_cons, WBO_one, WBO_cons, WL_nil, WL_cons, WS_set, WS_ret, WS_retN, WS_pass, WS_brk, WS_cont, WS_drop, WS_ite, WS_raise, WSs_nil, Ss_set, Ss_ret, Ss_retN, Ss_pass, Ss_brk, Ss_cont, Ss_drop, Ss_raise, Ss_ite_ret, Ss_ite_retN, Ss_ite_raise, Ss_ite_cont, Ss_ite_brk, Ss_ite_last, gt_0, gt_S, wAdd_int, wSub_int, wMul_int, wMul_rep, wDiv_int, wMod_int, wPow_int, wAdd_str, wNeg_int, wAbs_int, wLt_int, wLe_int, wGt_int, wGe_int, wEq_int, wNe_int, wEq_bl, wNe_bl, wEq_str, wNe_str, wLen_tup, wLen_lst, tru_bl, tru_int, ty_int_int, ty_int_bool, ty_int_str, ty_int_tuple, ty_int_list, ty_int_dict, ty_bl_int, ty_bl_bool, ty_bl_str, ty_bl_tuple, ty_bl_list, ty_bl_dict, ty_str_int, ty_str_bool, ty_str_str, ty_str_tuple, ty_str_list, ty_str_dict, ty_tup_int, ty_tup_bool, ty_tup_str, ty_tup_tuple, ty_tup_list, ty_tup_dict, ty_lst_int, ty_lst_bool, ty_lst_str, ty_lst_tuple, ty_lst_list, ty_lst_dict, ty_dct_int, ty_dct_bool, ty_dct_str, ty_dct_tuple, ty_dct_list, ty_dct_dict, ty_non, sub_tup0, sub_tup1, sub_tup2, sub_tup3, sub_tup4, sub_tup5, sub_lst0, sub_lst1, sub_lst2, sub_lst3, sub_lst4, sub_lst5, startA, List.map_cons, List.map_nil, List.length_cons, List.length_nil, List.replicate, List.cons_append, List.nil_append, true_and, and_true, ne_eq, isNon, Bool.not_true, Bool.not_false, Bool.true_or, Bool.or_true, Bool.false_or, reduceIte, Nat.reduceAdd, Nat.zero_add, Int.cast_ofNat_Int, Int.reduceEq, Int.reduceLT, Int.reduceLE, Nat.reduceLeDiff, decide_true, decide_false, not_true_eq_false, not_false_eq_true, Nat.reduceSub, Int.reduceToNat, W_slice, W_blt, W_mth, W_comp, WOe_none, WOe_some, WI_seq, WI_range1, WI_range2, WI_enum, WI_zip, WI_rev, WT0_none, WT0_some, Ss_asg, Ss_setSub, Ss_aug, WS_asg, WS_aug, WS_for, WS_setC, bT_name, bT_tup, bT_lst, bTs_nil, bTs_name, seq_lst, seq_tup, seq_scr, seq_str, seq_loc, lst_lst, lst_scr, lst_loc, exInt, exLoc, exLst, exLst1, exLV_lst, exLV_loc, mOk_app, mOk_pop, mOk_ext, mOk_ins, mOk_ind, mOk_join, mOk_indl, m_append, m_pop, m_extend, m_insert, m_join, b_listL, b_listT, b_listS, b_listK, b_tupL, b_tupT, b_tupK, b_max2, b_min2, b_ord, b_str, sl_lst, sl_loc, sl_scr, sl_tupE, sl_strE, cat_lst, cat_loc, cat_tup, wLen_scr, wLen_loc, wLen_str, wSub_scr, wSub_loc, wSub_str, aug_add, aug_sub, tru_lst, tru_tup, tru_non, ty_scr_list, sg_p0, sg_pl, ss_p0, ss_pl, ob_set0, ob_set1, ob_set2, ob_set3, ob_g0, ob_g1, ob_g2, ob_g3, List.append_assoc, List.length_append, List.nil_append, Nat.add_zero, Nat.add_assoc, Int.reduceNeg, wipeA, orc_run, orc_glob, orc_init, orc_isa, orc_gdct, W_isc, b_intB, W_glob, W_gget, W_fld, W_mcall, W_make, W_make0, W_dsp, Ss_setFld, subO_l, subO_d, lenO_l, lenO_d, listO_l, listO_d, putO_l, keyV_int, keyV_str, wIn_str, wNotin_str, mapSome, at_0, at_1, at_2, at_3, at_4, at_5, ix_1_0, ix_2_0, ix_2_1, ix_3_0, ix_3_1, ix_3_2, ix_4_0, ix_4_1, ix_4_2, ix_4_3, va_s0, va_s1, va_s2, va_s3])
local macro_rules | `(tactic| walk_at "if") => `(tactic| (try simp only []); rw [Ss_ite]; simp only [st_set0, st_setS, iteTrue, iteFalse, iteDec, iteNDec, exSome, exBl, W_var, W_int, W_bl, W_non, W_str, W_tup, W_lst, W_bin, W_neg, W_cmp, W_isN, W_notN, W_lrev, wIsb, wNisb, W_chain, W_tst, W_ite, W_call, W_len, W_abs, W_isi, W_sub, WT_val, WT_not, WT_and, WT_or, WA_one, WA_cons, WO_one, WO_cons, WB_val, WB_not, WB_and, WB_or, WBA_one, WBA_cons, WBO_one, WBO_cons, WL_nil, WL_cons, WS_set, WS_ret, WS_retN, WS_pass, WS_brk, WS_cont, WS_drop, WS_ite, WS_raise, WSs_nil, Ss_set, Ss_ret, Ss_retN, Ss_pass, Ss_brk, Ss_cont, Ss_drop, Ss_raise, Ss_ite_ret, Ss_ite_retN, Ss_ite_raise, Ss_ite_cont, Ss_ite_brk, Ss_ite_last, gt_0, gt_S, wAdd_int, wSub_int, wMul_int, wMul_rep, wDiv_int, wMod_int, wPow_int, wAdd_str, wNeg_int, wAbs_int, wLt_int, wLe_int, wGt_int, wGe_int, wEq_int, wNe_int, wEq_bl, wNe_bl, wEq_str, wNe_str, wLen_tup, wLen_lst, tru_bl, tru_int, ty_int_int, ty_int_bool, ty_int_str, ty_int_tuple, ty_int_list, ty_int_dict, ty_bl_int, ty_bl_bool, ty_bl_str, ty_bl_tuple, ty_bl_list, ty_bl_dict, ty_str_int, ty_str_bool, ty_str_str, ty_str_tuple, ty_str_list, ty_str_dict, ty_tup_int, ty_tup_bool, ty_tup_str, ty_tup_tuple, ty_tup_list, ty_tup_dict, ty_lst_int, ty_lst_bool, ty_lst_str, ty_lst_tuple, ty_lst_list, ty_lst_dict, ty_dct_int, ty_dct_bool, ty_dct_str, ty_dct_tuple, ty_dct_list, ty_dct_dict, ty_non, sub_tup0, sub_tup1, sub_tup2, sub_tup3, sub_tup4, sub_tup5, sub_lst0, sub_lst1, sub_lst2, sub_lst3, sub_lst4, sub_lst5, startA, List.map_cons, List.map_nil, List.length_cons, List.length_nil, List.replicate, List.cons_append, List.nil_append, true_and, and_true, ne_eq, isNon, Bool.not_true, Bool.not_false, Bool.true_or, Bool.or_true, Bool.false_or, reduceIte, Nat.reduceAdd, Nat.zero_add, Int.cast_ofNat_Int, Int.reduceEq, Int.reduceLT, Int.reduceLE, Nat.reduceLeDiff, decide_true, decide_false, not_true_eq_false, not_false_eq_true, Nat.reduceSub, Int.reduceToNat, W_slice, W_blt, W_mth, W_comp, WOe_none, WOe_some, WI_seq, WI_range1, WI_range2, WI_enum, WI_zip, WI_rev, WT0_none, WT0_some, Ss_asg, Ss_setSub, Ss_aug, WS_asg, WS_aug, WS_for, WS_setC, bT_name, bT_tup, bT_lst, bTs_nil, bTs_name, seq_lst, seq_tup, seq_scr, seq_str, seq_loc, lst_lst, lst_scr, lst_loc, exInt, exLoc, exLst, exLst1, exLV_lst, exLV_loc, mOk_app, mOk_pop, mOk_ext, mOk_ins, mOk_ind, mOk_join, mOk_indl, m_append, m_pop, m_extend, m_insert, m_join, b_listL, b_listT, b_listS, b_listK, b_tupL, b_tupT, b_tupK, b_max2, b_min2, b_ord, b_str, sl_lst, sl_loc, sl_scr, sl_tupE, sl_strE, cat_lst, cat_loc, cat_tup, wLen_scr, wLen_loc, wLen_str, wSub_scr, wSub_loc, wSub_str, aug_add, aug_sub, tru_lst, tru_tup, tru_non, ty_scr_list, sg_p0, sg_pl, ss_p0, ss_pl, ob_set0, ob_set1, ob_set2, ob_set3, ob_g0, ob_g1, ob_g2, ob_g3, List.append_assoc, List.length_append, List.nil_append, Nat.add_zero, Nat.add_assoc, Int.reduceNeg, wipeA, orc_run, orc_glob, orc_init, orc_isa, orc_gdct, W_isc, b_intB, W_glob, W_gget, W_fld, W_mcall, W_make, W_make0, W_dsp, Ss_setFld, subO_l, subO_d, lenO_l, lenO_d, listO_l, listO_d, putO_l, keyV_int, keyV_str, wIn_str, wNotin_str, mapSome, at_0, at_1, at_2, at_3, at_4, at_5, ix_1_0, ix_2_0, ix_2_1, ix_3_0, ix_3_1, ix_3_2, ix_4_0, ix_4_1, ix_4_2, ix_4_3, va_s0, va_s1, va_s2, va_s3])
theorem fm (c m : Int) (hm : 0 < m) : 0 ≤ c.fmod m ∧ c.fmod m < m := by
  rw [Int.fmod_eq_emod_of_nonneg c (by omega)]
  exact ⟨Int.emod_nonneg c (by omega), Int.emod_lt_of_pos c hm⟩
theorem small {j : Int} (h0 : j ≠ 0) (h : j.natAbs < 2 ^ 200) : CDivA j := ⟨h0, B.log (n := 200) h (by decide)⟩
/-- a cell's bits -/
def CB (c : Int) : Prop := c.natAbs.log2 ≤ 1048577
theorem CB.mul {c i : Int} (h : CB c) (hi : i.natAbs < 2 ^ 200) : CMulA c i := by
  have := lgl hi
  unfold CB at h
  unfold CMulA
  omega
structure LqT (T : Tab) : Prop where
  cell : T "_law_cell_at" = some AQ.f_l_cell_at
  low : T "_law_low" = some AQ.f_l_low
  sum : T "_law_sum" = some AQ.f_l_sum
  less : T "_law_less" = some AQ.f_l_less
section
variable {T : Tab} (t : LqT T)
include t
theorem cellat_ok (ns : List Int) (hl : ns.length ≤ 63) (hb : ∀ z ∈ ns, Builtin.Int.intBits z ≤ 1048576) (k : Nat) (i : Int) (hi : 0 ≤ i) (hi2 : i ≤ 100000) {S : Sto} {P : PV} {E : PX} (h : ∀ c : Int, CB c → P (.int c) S) : call T (k + 1) "_law_cell_at" [.scr ns, .int i] S P E := by
  refine call_def t.cell rfl ?_
  unfold AQ.f_l_cell_at
  walk_at "am"
  by_cases h0 : (ns.length : Int) = 0
  · rw [if_pos h0]
    exact fin_keep (h 0 (Nat.zero_le _))
  rw [if_neg h0]
  have hlp : (0 : Int) < ns.length := by omega
  have hm := fm i ns.length hlp
  obtain ⟨j, hj⟩ := Int.eq_ofNat_of_zero_le hm.1
  have hjl : j < ns.length := by omega
  have hc : CDivA (ns.length : Int) := small h0 (by omega)
  rw [hj]
  refine ⟨hc, h0, ns[j], L2.atI_nat (by simp [hjl]), ?_⟩
  have hcb : CB ns[j] := by
    have := bits_lg (hb _ (List.getElem_mem hjl))
    unfold CB
    omega
  generalize ns[j] = c at *
  have hd : 0 ≤ i.fdiv ns.length ∧ i.fdiv ns.length ≤ i := by
    rw [Int.fdiv_eq_ediv_of_nonneg i (by omega)]
    exact ⟨Int.ediv_nonneg hi (by omega), Int.ediv_le_self _ hi⟩
  generalize i.fdiv ns.length = q at *
  split
  · exact fin_keep (h c hcb)
  · refine ⟨small (j := 2) (by decide) (by decide) |> fun _ => ?_, ?_⟩
    · have l2 := lgl (j := q) (n := 20) (by omega)
      have l1 := lgl (j := 2) (n := 2) (by decide)
      unfold CMulA; omega
    refine ⟨hcb.mul (by omega), ?_⟩
    have l2 := lgl (j := q) (n := 20) (by omega)
    have l1 := lgl (j := 31) (n := 5) (by decide)
    have hm2 := fm (c * (2 * q + 1)) 1000003 (by decide)
    refine ⟨by unfold CMulA; omega, ?_⟩
    refine fin_keep (h _ ?_)
    have := lgl (j := (c * (2 * q + 1)).fmod 1000003 + 31 * q) (n := 30) (by omega)
    unfold CB; omega
theorem low_ok (k : Nat) (a b : Int) (hb : 0 < b) {n : Nat} (hs : B n b) (hn : n ≤ 9000) {S : Sto} {P : PV} {E : PX} (h : P (Qv (Rat.divInt a b)) S) : call T (k + 1) "_law_low" [.int a, .int b] S P E := by
  refine call_def t.low rfl ?_
  unfold AQ.f_l_low
  walk_at "am"
  refine seq_cut (call_mono _ _) (fun Γ S' => S = S' ∧ ∃ o, Γ = [some (.int a), some (.int b), some (.int (Int.gcd a b : Nat)), some (.int 0), o]) ?_ ?_
  · refine wh_ix (call_mono T k) (fun (z : Int × Int × Option Va) => [some (.int a), some (.int b), some (.int z.1), some (.int z.2.1), z.2.2]) (fun z => 0 ≤ z.2.1 ∧ (z.2.1 = 0 → 0 ≤ z.1) ∧ Int.gcd z.1 z.2.1 = Int.gcd a b) (fun z => z.2.1.toNat) (a, b, none) ⟨by show 0 ≤ b; omega, fun z => by simp only at z; omega, rfl⟩ ?_
    rintro ⟨x, y, z⟩ ⟨h1, h2, h3⟩
    walk_at "am"
    simp only at h1 h2 h3
    split
    · rename_i hy
      subst hy
      refine ⟨z, ?_⟩
      have : x = ((Int.gcd a b : Nat) : Int) := by
        rw [← h3]; simp; have := h2 rfl; omega
      rw [this]
    · rename_i hy
      refine ⟨hy, (y, x.fmod y, _), rfl, ⟨(fm x y (by omega)).1, fun _ => h1, ?_⟩, ?_⟩
      · rw [← h3, Int.fmod_eq_emod_of_nonneg x h1]
        show Int.gcd y (x % y) = Int.gcd x y
        have e := Int.gcd_add_mul_left_right y (x % y) (x / y)
        rw [Int.emod_add_mul_ediv] at e
        rw [← e, Int.gcd_comm]
      · show (x.fmod y).toNat < y.toNat
        have := fm x y (by omega)
        omega
  rintro Γ S' ⟨rfl, o, rfl⟩
  walk_at "am"
  have hg : Int.gcd a b ≠ 0 := by
    intro z
    rw [Int.gcd_eq_zero_iff] at z
    omega
  have key : CDivA ((Int.gcd a b : Nat) : Int) := ⟨by omega, B.log (n := n) (hs.of_le (by
    have := gcd_le (a := a) (b := b) (by omega)
    simpa using this)) hn⟩
  have e1 := divInt_num a b (by omega)
  have e2 := divInt_den a b (by omega)
  rw [if_neg (by omega)] at e1 e2
  refine ⟨key, key, fin_keep ?_⟩
  rw [e1, e2]; exact h
theorem sumU_ok (k : Nat) (r : Rat) (c d : Int) (hd : 0 < d) {n m : Nat} (hr : BQ n r) (hc : B m c) (hdd : B m d) (hn : n + m ≤ 8990) {S : Sto} {P : PV} {E : PX} (h : P (Qv (r + Rat.divInt c d)) S) : call T (k + 2) "_law_sum" [Qv r, .tup [.int c, .int d]] S P E := by
  refine call_def t.sum rfl ?_
  unfold AQ.f_l_sum Qv
  walk_at "am"
  have hrd := r.den_pos
  refine ⟨hr.1.cmul hdd (by omega), hc.cmul hr.2 (by omega), hr.2.cmul hdd (by omega), ?_⟩
  refine low_ok t k _ _ (Int.mul_pos (by omega) hd) (hr.2.mul hdd) (by omega) ?_
  have e := Rat.divInt_add_divInt r.num c (den_ne r) (show d ≠ 0 by omega)
  rw [Rat.num_divInt_den] at e
  rw [← e]
  exact fin_keep h
theorem lsum_ok (k : Nat) (r q : Rat) {n m : Nat} (hr : BQ n r) (hq : BQ m q) (hn : n + m ≤ 8990) {S : Sto} {P : PV} {E : PX} (h : P (Qv (r + q)) S) : call T (k + 2) "_law_sum" [Qv r, Qv q] S P E := by
  have := q.den_pos
  refine sumU_ok t k r q.num q.den (by omega) hr hq.1 hq.2 hn ?_
  rw [Rat.num_divInt_den]
  exact h
theorem lless_ok (k : Nat) (r q : Rat) {n m : Nat} (hr : BQ n r) (hq : BQ m q) (hn : n + m ≤ 100000) {S : Sto} {P : PV} {E : PX} (h : P (.bl (decide (r < q))) S) : call T (k + 1) "_law_less" [Qv r, Qv q] S P E := by
  refine call_def t.less rfl ?_
  unfold AQ.f_l_less Qv
  walk_at "am"
  refine ⟨hr.1.cmul hq.2 (by omega), hq.1.cmul hr.2 (by omega), fin_keep ?_⟩
  have e : decide (r.num * q.den < q.num * r.den) = decide (r < q) := decide_eq_decide.mpr (lt_cross r q)
  rw [e]; exact h
theorem lbegin_ok (t1 : T "_law_begin" = some AQ.f_l_begin) (k : Nat) (i : Itm) {m : Nat} (hs : i.Sz m) (hm : m ≤ 40000) {S : Sto} {P : PV} {E : PX} (h : P (Qv i.beg) S) : call T (k + 2) "_law_begin" [i.va] S P E := by
  refine call_def t1 rfl ?_
  unfold AQ.f_l_begin Itm.va
  walk_at "am"
  cases e : i.most with
  | none =>
    unfold OQ
    have hb : i.beg = if i.base < i.least then i.least else i.base := by unfold Itm.beg; rw [e]; rfl
    refine seq_to (call_mono _ _) [some (.tup [Qv i.base, Qv i.least, .non, Qv i.grow, Qv i.shrink]), some (Qv i.base), some (Qv i.least), some .non, some (Qv i.grow), some (Qv i.shrink)] S (by walk_at "am") ?_
    walk_at "am"
    refine lless_ok t k i.base i.least hs.base hs.least (by omega) ?_
    walk_at "am"
    rw [hb] at h
    split
    · rename_i z; rw [if_pos z] at h; exact fin_keep h
    · rename_i z; rw [if_neg z] at h; exact fin_keep h
  | some q =>
    unfold OQ
    have hq := hs.most q e
    have hb : i.beg = if (if q < i.base then q else i.base) < i.least then i.least else (if q < i.base then q else i.base) := by
      unfold Itm.beg; rw [e]
      show (if _ then _ else if _ then _ else _) = _
      grind
    refine seq_to (call_mono _ _) [some (.tup [Qv i.base, Qv i.least, Qv q, Qv i.grow, Qv i.shrink]), some (Qv (if q < i.base then q else i.base)), some (Qv i.least), some (Qv q), some (Qv i.grow), some (Qv i.shrink)] S ?_ ?_
    · simp only [Qv]
      walk_at "am"
      refine lless_ok t k q i.base hq hs.base (by omega) ?_
      walk_at "am"
      split <;> rfl
    have hq' : BQ m (if q < i.base then q else i.base) := by
      have := hs.base
      split <;> assumption
    generalize (if q < i.base then q else i.base) = q' at *
    walk_at "am"
    refine lless_ok t k q' i.least hq' hs.least (by omega) ?_
    walk_at "am"
    rw [hb] at h
    split
    · rename_i z; rw [if_pos z] at h; exact fin_keep h
    · rename_i z; rw [if_neg z] at h; exact fin_keep h
theorem lbound_ok (t1 : T "_law_bound" = some AQ.f_l_bound) (k : Nat) (i : Itm) (g : Bool) {m : Nat} (hs : i.Sz m) (hm : m ≤ 40000) {S : Sto} {P : PV} {E : PX} (h : P (OQ (i.bnd g)) S) : call T (k + 2) "_law_bound" [i.va, .bl g] S P E := by
  refine call_def t1 rfl ?_
  unfold AQ.f_l_bound Itm.va
  walk_at "am"
  unfold Itm.bnd at h
  cases g with
  | false => rw [if_neg (by decide)] at h; walk_at "am"; exact fin_keep h
  | true =>
    rw [if_pos rfl] at h
    walk_at "am"
    cases e : i.most with
    | none =>
      rw [e] at h
      unfold OQ
      walk_at "am"
      exact fin_keep h
    | some q =>
      rw [e] at h
      unfold OQ
      simp only [Qv]
      walk_at "am"
      refine lless_ok t _ q i.least (hs.most q e) hs.least (by omega) ?_
      walk_at "am"
      by_cases hl : q < i.least
      · rw [if_pos hl]; simp only [if_pos hl] at h; exact fin_keep h
      · rw [if_neg hl]; simp only [if_neg hl] at h; exact fin_keep h
end
end FR
end

section
set_option linter.all false
set_option maxRecDepth 100000
set_option maxHeartbeats 2000000
/-! What the rounds come to: plain laws. -/
open PySem
namespace FR
open PySem AM
theorem foldl_add (xs : List Rat) : ∀ a : Rat, xs.foldl (· + ·) a = a + xs.foldl (· + ·) 0 := by
  induction xs with
  | nil => intro a; show a = a + 0; grind
  | cons x xs ih =>
    intro a
    rw [List.foldl_cons, List.foldl_cons, ih (a + x), ih (0 + x)]
    grind
theorem sumQ_nil : sumQ [] = 0 := rfl
theorem sumQ_cons (x : Rat) (xs : List Rat) : sumQ (x :: xs) = x + sumQ xs := by
  unfold sumQ
  rw [List.foldl_cons, foldl_add]
  grind
section
variable {f g D : Nat → Rat} {l : List Nat} {p : Nat → Bool}
theorem sumQ_filter : sumQ ((l.filter p).map D) = sumQ (l.map fun k => if p k = true then D k else 0) := by
  induction l with
  | nil => rfl
  | cons a l ih =>
    rw [List.map_cons, sumQ_cons, ← ih, List.filter_cons]
    split
    · rw [List.map_cons, sumQ_cons]
    · grind
theorem sumQ_split : sumQ (l.map D) = sumQ ((l.filter p).map D) + sumQ ((l.filter fun k => !p k).map D) := by
  induction l with
  | nil => show (0 : Rat) = 0 + 0; grind
  | cons a l ih =>
    rw [List.map_cons, sumQ_cons, ih, List.filter_cons, List.filter_cons]
    cases p a with
    | true => simp only [if_true, Bool.not_true, List.map_cons, sumQ_cons]; grind
    | false => simp only [Bool.not_false, if_true, List.map_cons, sumQ_cons]; grind
theorem sumQ_add : sumQ (l.map fun k => f k + g k) = sumQ (l.map f) + sumQ (l.map g) := by
  induction l with
  | nil => show (0 : Rat) = 0 + 0; grind
  | cons a l ih => rw [List.map_cons, List.map_cons, List.map_cons, sumQ_cons, sumQ_cons, sumQ_cons, ih]; grind
theorem sumQ_sub : sumQ (l.map fun k => f k - g k) = sumQ (l.map f) - sumQ (l.map g) := by
  induction l with
  | nil => show (0 : Rat) = 0 - 0; grind
  | cons a l ih => rw [List.map_cons, List.map_cons, List.map_cons, sumQ_cons, sumQ_cons, sumQ_cons, ih]; grind
theorem sumQ_smul (c : Rat) : sumQ (l.map fun k => f k * c) = sumQ (l.map f) * c := by
  induction l with
  | nil => simp [sumQ_nil]
  | cons a l ih => rw [List.map_cons, List.map_cons, sumQ_cons, sumQ_cons, ih]; grind
theorem sumQ_le (h : ∀ k ∈ l, f k ≤ g k) : sumQ (l.map f) ≤ sumQ (l.map g) := by
  induction l with
  | nil => exact Rat.le_refl
  | cons a l ih =>
    rw [List.map_cons, List.map_cons, sumQ_cons, sumQ_cons]
    have h1 := ih fun k hk => h k (List.mem_cons_of_mem _ hk)
    have h2 := h a List.mem_cons_self
    grind
theorem sumQ_lt (h : ∀ k ∈ l, f k < g k) (hn : l ≠ []) : sumQ (l.map f) < sumQ (l.map g) := by
  cases l with
  | nil => exact absurd rfl hn
  | cons a l =>
    rw [List.map_cons, List.map_cons, sumQ_cons, sumQ_cons]
    have h1 := sumQ_le (f := f) (g := g) fun k hk => by have := h k (List.mem_cons_of_mem _ hk); grind
    have h2 := h a List.mem_cons_self
    grind
theorem sumQ_congr (h : ∀ k ∈ l, f k = g k) : sumQ (l.map f) = sumQ (l.map g) := by
  rw [List.map_congr_left h]
end
def Ix (n : Nat) (left : List Nat) : Prop := ∃ q : Nat → Bool, left = (List.range n).filter q
theorem Ix.filter {n : Nat} {left : List Nat} (h : Ix n left) (p : Nat → Bool) : Ix n (left.filter p) := by
  obtain ⟨q, rfl⟩ := h
  exact ⟨_, List.filter_filter⟩
theorem sum_set {n : Nat} {left : List Nat} (h : Ix n left) (F W : Nat → Rat) : sumW n (setL F W left) = sumW n W + sumQ (left.map fun k => F k - W k) := by
  obtain ⟨q, rfl⟩ := h
  unfold sumW
  rw [sumQ_filter, ← sumQ_add]
  refine sumQ_congr fun k hk => ?_
  unfold setL
  have : (k ∈ (List.range n).filter q) ↔ q k = true := by rw [List.mem_filter]; exact ⟨fun z => z.2, fun z => ⟨hk, z⟩⟩
  by_cases hq : q k = true
  · rw [if_pos (this.mpr hq), if_pos hq]; grind
  · rw [if_neg (fun z => hq (this.mp z)), if_neg hq]; grind
def sgn (g : Bool) (d : Rat) : Prop := if g = true then 0 < d else d < 0
theorem lev_mul {n : Nat} {room : Rat} {s W : Nat → Rat} {left : List Nat} (hs : ∀ k ∈ left, 0 < s k) (hn : left ≠ []) : sumQ (left.map s) * lev n room s W left = (room - sumW n W).abs := by
  have hp : 0 < sumQ (left.map s) := sumQ_pos (fun q hq => by
    obtain ⟨j, h1, rfl⟩ := List.mem_map.mp hq
    exact hs j h1) (by simpa using hn)
  unfold lev
  rw [Rat.mul_comm, Rat.div_mul_cancel (by grind)]
theorem sgn_abs {g : Bool} {d : Rat} (h : sgn g d) : d.abs = if g = true then d else -d := by
  unfold sgn at h
  cases g with
  | true => rw [if_pos rfl] at *; exact Rat.abs_of_nonneg (by grind)
  | false => rw [if_neg (by decide)] at *; exact Rat.abs_of_nonpos (by grind)
theorem isB_mono {g : Bool} {s W : Nat → Rat} {l0 l : Rat} {k : Nat} {b : Option Rat} (hs : 0 < s k) (hl : l0 ≤ l) (h : isB g (wayR g s W l0 k) b = true) : isB g (wayR g s W l k) b = true := by
  cases b with
  | none => cases h
  | some q =>
    have := Rat.mul_le_mul_of_nonneg_left hl (show 0 ≤ s k by grind)
    cases g with
    | true => simp [isB, wayR] at *; grind
    | false => simp [isB, wayR] at *; grind
section
variable {n : Nat} {room : Rat} {g : Bool} {s : Nat → Rat} {b : Nat → Option Rat} {W0 W : Nat → Rat} {left : List Nat} {lv : Option Rat} {rs : List (List Nat)}
theorem Rnd.facts (h : Rnd n room g s b W0 left W lv rs) : Ix n left → (∀ k ∈ left, 0 < s k) → sgn g (room - sumW n W0) →
    (∀ k, k ∉ left → W k = W0 k) ∧ (lv = none → sgn g (room - sumW n W) ∧ ∀ k ∈ left, b k = some (W k)) ∧
    (∀ l, lv = some l → left ≠ [] ∧ sumW n W = room ∧ lev n room s W0 left ≤ l ∧ 0 < l ∧ ∀ k ∈ left, (isB g (wayR g s W0 l k) (b k) = true ∧ b k = some (W k)) ∨ (isB g (wayR g s W0 l k) (b k) = false ∧ W k = wayR g s W0 l k)) := by
  induction h with
  | out W => exact fun _ _ hs => ⟨fun _ _ => rfl, fun _ => ⟨hs, (by simp)⟩, fun l z => (by cases z)⟩
  | done W left hne hb =>
    intro hI hp hs
    have hm := lev_mul (n := n) (room := room) (W := W) hp hne
    rw [sgn_abs hs] at hm
    have hpos : 0 < sumQ (left.map s) := sumQ_pos (fun q hq => by
      obtain ⟨j, h1, rfl⟩ := List.mem_map.mp hq
      exact hp j h1) (by simpa using hne)
    refine ⟨fun k hk => (by unfold setL; rw [if_neg hk]), fun z => (by cases z), fun l hl => ?_⟩
    cases hl
    have hlpos : 0 < lev n room s W left := by
      unfold lev
      rw [Rat.div_def]
      refine Rat.mul_pos ?_ (Rat.inv_pos.mpr hpos)
      rw [sgn_abs hs]
      unfold sgn at hs
      cases g <;> simp at * <;> grind
    refine ⟨hne, ?_, Rat.le_refl, hlpos, fun k hk => .inr ⟨?_, by unfold setL; rw [if_pos hk]⟩⟩
    · rw [sum_set hI]
      cases g with
      | true =>
        have e : sumQ (left.map fun k => wayR true s W (lev n room s W left) k - W k) = sumQ (left.map fun k => s k * lev n room s W left) := sumQ_congr fun k _ => by simp [wayR]; grind
        rw [e, sumQ_smul, hm]
        simp; grind
      | false =>
        have e : sumQ (left.map fun k => wayR false s W (lev n room s W left) k - W k) = sumQ (left.map fun k => s k * (-lev n room s W left)) := sumQ_congr fun k _ => by simp [wayR]; grind
        rw [e, sumQ_smul]
        simp at hm
        grind
    · unfold bey at hb
      rw [List.filter_eq_nil_iff] at hb
      simpa using hb k hk
  | step W left W' lv rs hne hbn _ ih =>
    intro hI hp hs
    have hm := lev_mul (n := n) (room := room) (W := W) hp hne
    rw [sgn_abs hs] at hm
    generalize hl0 : lev n room s W left = l0 at *
    obtain ⟨p, hpd⟩ : ∃ p : Nat → Bool, p = fun k => isB g (wayR g s W l0 k) (b k) := ⟨_, rfl⟩
    have hbe : bey n room g s b W left = left.filter p := by rw [hpd]; unfold bey; rw [hl0]
    rw [hbe] at hbn ih
    have hpj : ∀ j, isB g (wayR g s W l0 j) (b j) = p j := fun j => by rw [hpd]
    have hmem : ∀ k ∈ left, (k ∈ left.filter p ↔ p k = true) := fun k hk => by rw [List.mem_filter]; exact ⟨fun z => z.2, fun z => ⟨hk, z⟩⟩
    have hl1 : (left.filter fun k => !decide (k ∈ left.filter p)) = left.filter fun k => !p k := by
      refine List.filter_congr fun k hk => ?_
      have := hmem k hk
      cases hpk : p k with
      | true => simp [hk, hpk]
      | false => simp [hk, hpk]
    rw [hl1] at ih
    have hsp := sumQ_split (D := s) (l := left) (p := p)
    have hW1 : setB b W (left.filter p) = setL (fun k => (b k).getD 0) W (left.filter p) := rfl
    have hsum := sum_set (hI.filter p) (fun k => (b k).getD 0) W
    rw [← hW1] at hsum
    have hbk : ∀ k ∈ left.filter p, ∃ q, b k = some q ∧ (if g = true then q < W k + s k * l0 else W k - s k * l0 < q) := fun k hk => by
      have h1 := (List.mem_filter.mp hk).2
      rw [← hpj] at h1
      cases hb : b k with
      | none => rw [hb] at h1; cases h1
      | some q =>
        rw [hb] at h1
        refine ⟨q, rfl, ?_⟩
        cases g with
        | true => simp [isB, wayR] at h1; rw [if_pos rfl]; exact h1
        | false => simp [isB, wayR] at h1; rw [if_neg (by decide)]; exact h1
    have hmain : (if g = true then sumQ ((left.filter fun k => !p k).map s) * l0 < room - sumW n (setB b W (left.filter p)) else room - sumW n (setB b W (left.filter p)) < - (sumQ ((left.filter fun k => !p k).map s) * l0)) := by
      cases g with
      | true =>
        rw [if_pos rfl] at hm ⊢
        have := sumQ_lt (l := left.filter p) (f := fun k => (b k).getD 0 - W k) (g := fun k => s k * l0) (fun k hk => by
          obtain ⟨q, e, h1⟩ := hbk k hk
          rw [if_pos rfl] at h1
          simp only [e, Option.getD_some]
          grind) hbn
        rw [sumQ_smul] at this
        rw [hsp] at hm
        grind
      | false =>
        rw [if_neg (by decide)] at hm ⊢
        have := sumQ_lt (l := left.filter p) (f := fun k => s k * (-l0)) (g := fun k => (b k).getD 0 - W k) (fun k hk => by
          obtain ⟨q, e, h1⟩ := hbk k hk
          rw [if_neg (by decide)] at h1
          simp only [e, Option.getD_some]
          grind) hbn
        rw [sumQ_smul] at this
        rw [hsp] at hm
        grind
    have hp1 : ∀ k ∈ left.filter (fun k => !p k), 0 < s k := fun k hk => hp k (List.mem_filter.mp hk).1
    have hs1 : 0 ≤ sumQ ((left.filter fun k => !p k).map s) := sumQ_nonneg fun q hq => by
      obtain ⟨j, h1, rfl⟩ := List.mem_map.mp hq
      have := hp1 j h1
      grind
    have hl0p : 0 ≤ l0 := by
      rw [← hl0]; unfold lev
      rw [Rat.div_def]
      have hi := Rat.inv_pos.mpr (sumQ_pos (qs := left.map s) (fun q hq => by
        obtain ⟨j, h1, rfl⟩ := List.mem_map.mp hq
        exact hp j h1) (by simpa using hne))
      refine Rat.mul_nonneg ?_ (by grind)
      rw [sgn_abs hs]
      unfold sgn at hs
      cases g <;> simp at * <;> grind
    have hmn := Rat.mul_nonneg hs1 hl0p
    have hsg : sgn g (room - sumW n (setB b W (left.filter p))) := by
      unfold sgn
      cases g with
      | true => rw [if_pos rfl] at hmain ⊢; grind
      | false => rw [if_neg (by decide)] at hmain ⊢; grind
    obtain ⟨i1, i2, i3⟩ := ih (hI.filter _) hp1 hsg
    have hset : ∀ k ∈ left, p k = true → b k = some (W' k) := fun k hk hpk => by
      have h2 : k ∉ left.filter (fun k => !p k) := fun z => by
        have := (List.mem_filter.mp z).2
        rw [hpk] at this; cases this
      have h1 := (hmem k hk).mpr hpk
      obtain ⟨q, e, _⟩ := hbk k h1
      rw [i1 k h2]
      unfold setB
      rw [if_pos h1, e]; rfl
    refine ⟨fun k hk => ?_, fun z => ⟨(i2 z).1, fun k hk => ?_⟩, fun l hl => ?_⟩
    · rw [i1 k (fun z => hk (List.mem_filter.mp z).1)]
      unfold setB
      rw [if_neg (fun z => hk (List.mem_filter.mp z).1)]
    · cases hpk : p k with
      | true => exact hset k hk hpk
      | false => exact (i2 z).2 k (List.mem_filter.mpr ⟨hk, by rw [hpk]; rfl⟩)
    · obtain ⟨j1, j2, j3, j4, j5⟩ := i3 l hl
      have hp2 : 0 < sumQ ((left.filter fun k => !p k).map s) := sumQ_pos (fun q hq => by
        obtain ⟨j, h1, rfl⟩ := List.mem_map.mp hq
        exact hp1 j h1) (by simpa using j1)
      have hle : l0 ≤ l := by
        have hm1 := lev_mul (n := n) (room := room) (W := setB b W (left.filter p)) hp1 j1
        rw [sgn_abs hsg] at hm1
        have h4 := Rat.mul_le_mul_of_nonneg_left j3 hs1
        rw [hm1] at h4
        refine Rat.not_lt.mp fun hlt => ?_
        have h5 := Rat.mul_lt_mul_of_pos_left hlt hp2
        cases g with
        | true => rw [if_pos rfl] at hmain h4; grind
        | false => rw [if_neg (by decide)] at hmain h4; grind
      refine ⟨hne, j2, hle, j4, fun k hk => ?_⟩
      cases hpk : p k with
      | true =>
        refine .inl ⟨isB_mono (hp k hk) hle (by rw [hpj]; exact hpk), hset k hk hpk⟩
      | false =>
        have hk1 : k ∈ left.filter (fun k => !p k) := List.mem_filter.mpr ⟨hk, by rw [hpk]; rfl⟩
        have e : wayR g s (setB b W (left.filter p)) l k = wayR g s W l k := by
          have e9 : setB b W (left.filter p) k = W k := by
            unfold setB
            rw [if_neg (fun z => by have := (hmem k hk).mp z; rw [hpk] at this; cases this)]
          unfold wayR
          rw [e9]
        have := j5 k hk1
        rw [e] at this
        exact this
end
/-! ### sizes -/
theorem lev_B {n m rm : Nat} {room : Rat} {s W : Nat → Rat} {left : List Nat} (hW : ∀ j, j < n → BQ m (W j)) (hs : ∀ j ∈ left, BQ m (s j) ∧ 0 < s j) (hne : left ≠ []) (hll : left.length ≤ n) (hr : BQ rm room) : BQ (2 * (n * (m + 1) + 1) + rm + 1) (lev n room s W left) := by
  unfold lev
  have hss : ∀ q ∈ left.map s, BQ m q := fun q hq => by
    obtain ⟨j, h1, rfl⟩ := List.mem_map.mp hq
    exact (hs j h1).1
  have hsW2 : ∀ q ∈ (List.range n).map W, BQ m q := fun q hq => by
    obtain ⟨j, h1, rfl⟩ := List.mem_map.mp hq
    exact hW j (List.mem_range.mp h1)
  have hpos : 0 < sumQ (left.map s) := sumQ_pos (fun q hq => by
    obtain ⟨j, h1, rfl⟩ := List.mem_map.mp hq
    exact (hs j h1).2) (by simpa using hne)
  have bW2 := sumQ_B hsW2
  have bs2 := sumQ_B hss
  rw [List.length_map, List.length_range] at bW2
  rw [List.length_map] at bs2
  have hmul2 : left.length * (m + 1) ≤ n * (m + 1) := Nat.mul_le_mul_right _ hll
  exact ((hr.sub2 bW2).absQ.div2 bs2 (by grind)).mono (by omega)
theorem Ix.len {n : Nat} {left : List Nat} (h : Ix n left) : left.length ≤ n := by
  obtain ⟨q, rfl⟩ := h
  have := List.length_filter_le q (List.range n)
  rwa [List.length_range] at this
theorem Ix.lt {n k : Nat} {left : List Nat} (h : Ix n left) (hk : k ∈ left) : k < n := by
  obtain ⟨q, rfl⟩ := h
  exact List.mem_range.mp (List.mem_filter.mp hk).1
section
variable {n : Nat} {room : Rat} {g : Bool} {s : Nat → Rat} {b : Nat → Option Rat} {W0 W : Nat → Rat} {left : List Nat} {lv : Option Rat} {rs : List (List Nat)}
theorem Rnd.size {m rm : Nat} (hr : BQ rm room) (hb : ∀ j, j < n → ∀ q, b j = some q → BQ m q) (h : Rnd n room g s b W0 left W lv rs) : Ix n left → (∀ k ∈ left, BQ m (s k) ∧ 0 < s k) → (∀ j, j < n → BQ m (W0 j)) →
    (∀ l, lv = some l → BQ (2 * (n * (m + 1) + 1) + rm + 1) l) ∧ ∀ j, j < n → BQ (2 * (n * (m + 1) + 1) + rm + 1 + m + m + 1) (W j) := by
  induction h with
  | out W => exact fun _ _ h3 => ⟨fun l z => (by cases z), fun j hj => (h3 j hj).mono (by omega)⟩
  | done W left hne hbe =>
    intro hI hs hW
    have hl := lev_B hW hs hne hI.len hr
    refine ⟨fun l z => by cases z; exact hl, fun j hj => ?_⟩
    unfold setL
    split
    · rename_i hk
      have h7 := hW j hj
      have h8 := ((hs j hk).1).mul2 hl
      unfold wayR
      split
      · exact (h7.add2 h8).mono (by omega)
      · exact (h7.sub2 h8).mono (by omega)
    · exact (hW j hj).mono (by omega)
  | step W left W' lv rs hne hbn _ ih =>
    intro hI hs hW
    refine ih (hI.filter _) (fun k hk => hs k (List.mem_filter.mp hk).1) fun j hj => ?_
    unfold setB
    split
    · rename_i hk
      have h1 := (List.mem_filter.mp hk).2
      cases hq : b j with
      | none => rw [hq] at h1; cases h1
      | some q => exact hb j hj q hq
    · exact hW j hj
end
/-! ### all told -/
structure Dealt (n : Nat) (room : Rat) (g : Bool) (s : Nat → Rat) (b : Nat → Option Rat) (B W : Nat → Rat) (lv : Option Rat) : Prop where
  keep : ∀ k, k < n → s k = 0 → W k = B k
  non : lv = none → sgn g (room - sumW n W) ∧ ∀ k, k < n → s k ≠ 0 → b k = some (W k)
  som : ∀ l, lv = some l → sumW n W = room ∧ 0 < l ∧ ∀ k, k < n → s k ≠ 0 → (isB g (wayR g s B l k) (b k) = true ∧ b k = some (W k)) ∨ (isB g (wayR g s B l k) (b k) = false ∧ W k = wayR g s B l k)
theorem dealt_facts {n : Nat} {room : Rat} {g : Bool} {s : Nat → Rat} {b : Nat → Option Rat} {B W : Nat → Rat} {lv : Option Rat} {rs : List (List Nat)} (hs : ∀ k, k < n → 0 ≤ s k) (hne : room ≠ sumW n B) (hg : g = decide (0 < room - sumW n B))
    (h : Rnd n room g s b B ((List.range n).filter fun k => !decide (s k = 0)) W lv rs) : Dealt n room g s b B W lv := by
  have hI : Ix n ((List.range n).filter fun k => !decide (s k = 0)) := ⟨_, rfl⟩
  have hm : ∀ k, k < n → s k ≠ 0 → k ∈ (List.range n).filter fun k => !decide (s k = 0) := fun k hk h0 => List.mem_filter.mpr ⟨List.mem_range.mpr hk, by simpa using h0⟩
  obtain ⟨f1, f2, f3⟩ := h.facts hI (fun k hk => by
    have h1 := hs k (hI.lt hk)
    have h2 : ¬ s k = 0 := by simpa using (List.mem_filter.mp hk).2
    grind) (by
    unfold sgn
    cases g with
    | true => rw [if_pos rfl]; exact of_decide_eq_true hg.symm
    | false =>
      rw [if_neg (by decide)]
      have := of_decide_eq_false hg.symm
      grind)
  refine ⟨fun k hk h0 => f1 k fun z => ?_, fun z => ⟨(f2 z).1, fun k hk h0 => (f2 z).2 k (hm k hk h0)⟩, fun l hl => ?_⟩
  · have h2 : ¬ s k = 0 := by simpa using (List.mem_filter.mp z).2
    exact h2 h0
  · obtain ⟨_, j2, _, j4, j5⟩ := f3 l hl
    exact ⟨j2, j4, fun k hk h0 => j5 k (hm k hk h0)⟩
theorem dealt_size {n m rm : Nat} {room : Rat} {g : Bool} {s : Nat → Rat} {b : Nat → Option Rat} {B W : Nat → Rat} {lv : Option Rat} {rs : List (List Nat)} (hs : ∀ k, k < n → BQ m (s k) ∧ 0 ≤ s k) (hr : BQ rm room) (hb : ∀ j, j < n → ∀ q, b j = some q → BQ m q) (hB : ∀ j, j < n → BQ m (B j))
    (h : Rnd n room g s b B ((List.range n).filter fun k => !decide (s k = 0)) W lv rs) : (∀ l, lv = some l → BQ (2 * (n * (m + 1) + 1) + rm + 1) l) ∧ ∀ j, j < n → BQ (2 * (n * (m + 1) + 1) + rm + 1 + m + m + 1) (W j) := by
  have hI : Ix n ((List.range n).filter fun k => !decide (s k = 0)) := ⟨_, rfl⟩
  refine h.size hr hb hI (fun k hk => ?_) hB
  have h1 := hs k (hI.lt hk)
  have h2 : ¬ s k = 0 := by simpa using (List.mem_filter.mp hk).2
  exact ⟨h1.1, by grind⟩
theorem sumW_le {n : Nat} {W V : Nat → Rat} (h : ∀ k, k < n → W k ≤ V k) : sumW n W ≤ sumW n V := sumQ_le fun k hk => h k (List.mem_range.mp hk)
/-- farther off, and still no level -/
theorem none_far {n : Nat} {room room' : Rat} {g : Bool} {s : Nat → Rat} {b : Nat → Option Rat} {B W W' : Nat → Rat} {lv : Option Rat} (h : Dealt n room g s b B W none) (h' : Dealt n room' g s b B W' lv) (hf : if g = true then room ≤ room' else room' ≤ room) : lv = none := by
  cases lv with
  | none => rfl
  | some l =>
    exfalso
    obtain ⟨h1, h2⟩ := h.non rfl
    obtain ⟨h3, h4, h5⟩ := h'.som l rfl
    unfold sgn at h1
    cases g with
    | true =>
      rw [if_pos rfl] at h1 hf
      have := sumW_le (n := n) (W := W') (V := W) fun k hk => by
        by_cases h0 : s k = 0
        · rw [h.keep k hk h0, h'.keep k hk h0]; exact Rat.le_refl
        · have e := h2 k hk h0
          rcases h5 k hk h0 with ⟨_, q⟩ | ⟨q1, q2⟩
          · rw [e] at q; injection q with q; rw [q]; exact Rat.le_refl
          · rw [e] at q1
            rw [q2]
            simp [isB] at q1
            grind
      grind
    | false =>
      rw [if_neg (by decide)] at h1 hf
      have := sumW_le (n := n) (W := W) (V := W') fun k hk => by
        by_cases h0 : s k = 0
        · rw [h.keep k hk h0, h'.keep k hk h0]; exact Rat.le_refl
        · have e := h2 k hk h0
          rcases h5 k hk h0 with ⟨_, q⟩ | ⟨q1, q2⟩
          · rw [e] at q; injection q with q; rw [q]; exact Rat.le_refl
          · rw [e] at q1
            rw [q2]
            simp [isB] at q1
            grind
      grind
end FR
end

section
set_option linter.all false
set_option maxRecDepth 100000
set_option maxHeartbeats 2000000
/-! Whole numbers as fractions; what dealt tells. -/
open PySem
namespace AQ
open AM
def f_l_fraction : Fn := ⟨["_law_found"], ["_law_found", "_law_part"],
  (.cons (.ite (.or (.cons (.not (.val (.isi (.var 0) .tuple))) (.one (.val (.cmp .ne (.len (.var 0)) (.int 2)))))) (.cons (.ret (.bl false))
  .nil) .nil)
  (.cons (.for_ (.name 1) (.seq (.var 0)) (.cons (.ite (.or (.cons (.not (.val (.isi (.var 1) .int))) (.one (.val (.isi (.var 1) .bool))))) (.cons (.ret (.bl false))
  .nil) .nil)
  .nil))
  (.cons (.ret (.tst (.and (.cons (.val (.cmp .ge (.sub (.var 0) (.int 1)) (.int 1))) (.one (.val (.cmp .eq (.call "_law_low" (.cons (.sub (.var 0) (.int 0)) (.cons (.sub (.var 0) (.int 1)) .nil))) (.var 0))))))))
  .nil)))⟩
end AQ
namespace FR
open PySem AM
local macro_rules | `(tactic| walk_at "am") => `(tactic| try simp only [st_set0, st_setS, iteTrue, iteFalse, iteDec, iteNDec, exSome, exBl, W_var, W_int, W_bl, W_non, W_str, W_tup, W_lst, W_bin, W_neg, W_cmp, W_isN, W_notN, W_lrev, wIsb, wNisb, W_chain, W_tst, W_ite, W_call, W_len, W_abs, W_isi, W_sub, WT_val, WT_not, WT_and, WT_or, WA_one, WA_cons, WO_one, WO_cons, WB_val, WB_not, WB_and, WB_or, WBA_one, WBA_cons, WBO_one, WBO_cons, WL_nil, WL_cons, WS_set, WS_ret, WS_retN, WS_pass, WS_brk, WS_cont, WS_drop, WS_ite, WS_raise, WSs_nil, Ss_set, Ss_ret, Ss_retN, Ss_pass, Ss_brk, Ss_cont, Ss_drop, Ss_raise, Ss_ite_ret, Ss_ite_retN, Ss_ite_raise, Ss_ite_cont, Ss_ite_brk, Ss_ite_last, gt_0, gt_S, wAdd_int, wSub_int, wMul_int, wMul_rep, wDiv_int, wMod_int, wPow_int, wAdd_str, wNeg_int, wAbs_int, wLt_int, wLe_int, wGt_int, wGe_int, wEq_int, wNe_int, wEq_bl, wNe_bl, wEq_str, wNe_str, wLen_tup, wLen_lst, tru_bl, tru_int, ty_int_int, ty_int_bool, ty_int_str, ty_int_tuple, ty_int_list, ty_int_dict, ty_bl_int, ty_bl_bool, ty_bl_str, ty_bl_tuple, ty_bl_list, ty_bl_dict, ty_str_int, ty_str_bool, ty_str_str, ty_str_tuple, ty_str_list, ty_str_dict, ty_tup_int, ty_tup_bool, ty_tup_str, ty_tup_tuple, ty_tup_list, ty_tup_dict, ty_lst_int, ty_lst_bool, ty_lst_str, ty_lst_tuple, ty_lst_list, ty_lst_dict, ty_dct_int, ty_dct_bool, ty_dct_str, ty_dct_tuple, ty_dct_list, ty_dct_dict, ty_non, sub_tup0, sub_tup1, sub_tup2, sub_tup3, sub_tup4, sub_tup5, sub_lst0, sub_lst1, sub_lst2, sub_lst3, sub_lst4, sub_lst5, startA, List.map_cons, List.map_nil, List.length_cons, List.length_nil, List.replicate, List.cons_append, List.nil_append, true_and, and_true, ne_eq, isNon, Bool.not_true, Bool.not_false, Bool.true_or, Bool.or_true, Bool.false_or, reduceIte, Nat.reduceAdd, Nat.zero_add, Int.cast_ofNat_Int, Int.reduceEq, Int.reduceLT, Int.reduceLE, Nat.reduceLeDiff, decide_true, decide_false, not_true_eq_false, not_false_eq_true, Nat.reduceSub, Int.reduceToNat, W_slice, W_blt, W_mth, W_comp, WOe_none, WOe_some, WI_seq, WI_range1, WI_range2, WI_enum, WI_zip, WI_rev, WT0_none, WT0_some, Ss_asg, Ss_setSub, Ss_aug, WS_asg, WS_aug, WS_for, WS_setC, bT_name, bT_tup, bT_lst, bTs_nil, bTs_name, seq_lst, seq_tup, seq_scr, seq_str, seq_loc, lst_lst, lst_scr, lst_loc, exInt, exLoc, exLst, exLst1, exLV_lst, exLV_loc, mOk_app, mOk_pop, mOk_ext, mOk_ins, mOk_ind, mOk_join, mOk_indl, m_append, m_pop, m_extend, m_insert, m_join, b_listL, b_listT, b_listS, b_listK, b_tupL, b_tupT, b_tupK, b_max2, b_min2, b_ord, b_str, sl_lst, sl_loc, sl_scr, sl_tupE, sl_strE, cat_lst, cat_loc, cat_tup, wLen_scr, wLen_loc, wLen_str, wSub_scr, wSub_loc, wSub_str, aug_add, aug_sub, tru_lst, tru_tup, tru_non, ty_scr_list, sg_p0, sg_pl, ss_p0, ss_pl, ob_set0, ob_set1, ob_set2, ob_set3, ob_g0, ob_g1, ob_g2, ob_g3, List.append_assoc, List.length_append, List.nil_append, Nat.add_zero, Nat.add_assoc, Int.reduceNeg, wipeA, orc_run, orc_glob, orc_init, orc_isa, orc_gdct, W_isc, b_intB, W_glob, W_gget, W_fld, W_mcall, W_make, W_make0, W_dsp, Ss_setFld, subO_l, subO_d, lenO_l, lenO_d, listO_l, listO_d, putO_l, keyV_int, keyV_str, wIn_str, wNotin_str, mapSome, at_0, at_1, at_2, at_3, at_4, at_5, ix_1_0, ix_2_0, ix_2_1, ix_3_0, ix_3_1, ix_3_2, ix_4_0, ix_4_1, ix_4_2, ix_4_3, va_s0, va_s1, va_s2, va_s3])
local macro_rules | `(tactic| walk_at "if") => `(tactic| (try simp only []); rw [Ss_ite]; simp only [st_set0, st_setS, iteTrue, iteFalse, iteDec, iteNDec, exSome, exBl, W_var, W_int, W_bl, W_non, W_str, W_tup, W_lst, W_bin, W_neg, W_cmp, W_isN, W_notN, W_lrev, wIsb, wNisb, W_chain, W_tst, W_ite, W_call, W_len, W_abs, W_isi, W_sub, WT_val, WT_not, WT_and, WT_or, WA_one, WA_cons, WO_one, WO_cons, WB_val, WB_not, WB_and, WB_or, WBA_one, WBA_cons, WBO_one, WBO_cons, WL_nil, WL_cons, WS_set, WS_ret, WS_retN, WS_pass, WS_brk, WS_cont, WS_drop, WS_ite, WS_raise, WSs_nil, Ss_set, Ss_ret, Ss_retN, Ss_pass, Ss_brk, Ss_cont, Ss_drop, Ss_raise, Ss_ite_ret, Ss_ite_retN, Ss_ite_raise, Ss_ite_cont, Ss_ite_brk, Ss_ite_last, gt_0, gt_S, wAdd_int, wSub_int, wMul_int, wMul_rep, wDiv_int, wMod_int, wPow_int, wAdd_str, wNeg_int, wAbs_int, wLt_int, wLe_int, wGt_int, wGe_int, wEq_int, wNe_int, wEq_bl, wNe_bl, wEq_str, wNe_str, wLen_tup, wLen_lst, tru_bl, tru_int, ty_int_int, ty_int_bool, ty_int_str, ty_int_tuple, ty_int_list, ty_int_dict, ty_bl_int, ty_bl_bool, ty_bl_str, ty_bl_tuple, ty_bl_list, ty_bl_dict, ty_str_int, ty_str_bool, ty_str_str, ty_str_tuple, ty_str_list, ty_str_dict, ty_tup_int, ty_tup_bool, ty_tup_str, ty_tup_tuple, ty_tup_list, ty_tup_dict, ty_lst_int, ty_lst_bool, ty_lst_str, ty_lst_tuple, ty_lst_list, ty_lst_dict, ty_dct_int, ty_dct_bool, ty_dct_str, ty_dct_tuple, ty_dct_list, ty_dct_dict, ty_non, sub_tup0, sub_tup1, sub_tup2, sub_tup3, sub_tup4, sub_tup5, sub_lst0, sub_lst1, sub_lst2, sub_lst3, sub_lst4, sub_lst5, startA, List.map_cons, List.map_nil, List.length_cons, List.length_nil, List.replicate, List.cons_append, List.nil_append, true_and, and_true, ne_eq, isNon, Bool.not_true, Bool.not_false, Bool.true_or, Bool.or_true, Bool.false_or, reduceIte, Nat.reduceAdd, Nat.zero_add, Int.cast_ofNat_Int, Int.reduceEq, Int.reduceLT, Int.reduceLE, Nat.reduceLeDiff, decide_true, decide_false, not_true_eq_false, not_false_eq_true, Nat.reduceSub, Int.reduceToNat, W_slice, W_blt, W_mth, W_comp, WOe_none, WOe_some, WI_seq, WI_range1, WI_range2, WI_enum, WI_zip, WI_rev, WT0_none, WT0_some, Ss_asg, Ss_setSub, Ss_aug, WS_asg, WS_aug, WS_for, WS_setC, bT_name, bT_tup, bT_lst, bTs_nil, bTs_name, seq_lst, seq_tup, seq_scr, seq_str, seq_loc, lst_lst, lst_scr, lst_loc, exInt, exLoc, exLst, exLst1, exLV_lst, exLV_loc, mOk_app, mOk_pop, mOk_ext, mOk_ins, mOk_ind, mOk_join, mOk_indl, m_append, m_pop, m_extend, m_insert, m_join, b_listL, b_listT, b_listS, b_listK, b_tupL, b_tupT, b_tupK, b_max2, b_min2, b_ord, b_str, sl_lst, sl_loc, sl_scr, sl_tupE, sl_strE, cat_lst, cat_loc, cat_tup, wLen_scr, wLen_loc, wLen_str, wSub_scr, wSub_loc, wSub_str, aug_add, aug_sub, tru_lst, tru_tup, tru_non, ty_scr_list, sg_p0, sg_pl, ss_p0, ss_pl, ob_set0, ob_set1, ob_set2, ob_set3, ob_g0, ob_g1, ob_g2, ob_g3, List.append_assoc, List.length_append, List.nil_append, Nat.add_zero, Nat.add_assoc, Int.reduceNeg, wipeA, orc_run, orc_glob, orc_init, orc_isa, orc_gdct, W_isc, b_intB, W_glob, W_gget, W_fld, W_mcall, W_make, W_make0, W_dsp, Ss_setFld, subO_l, subO_d, lenO_l, lenO_d, listO_l, listO_d, putO_l, keyV_int, keyV_str, wIn_str, wNotin_str, mapSome, at_0, at_1, at_2, at_3, at_4, at_5, ix_1_0, ix_2_0, ix_2_1, ix_3_0, ix_3_1, ix_3_2, ix_4_0, ix_4_1, ix_4_2, ix_4_3, va_s0, va_s1, va_s2, va_s3])
theorem Qint (i : Int) : Qv (i : Rat) = .tup [.int i, .int 1] := by
  unfold Qv
  rw [Rat.num_intCast, Rat.den_intCast]
  rfl
theorem BQint {n : Nat} {i : Int} (h : i.natAbs < 2 ^ n) (h1 : 1 ≤ n) : BQ n (i : Rat) := by
  refine ⟨?_, ?_⟩
  · rw [Rat.num_intCast]; exact h
  · rw [Rat.den_intCast]
    show (1 : Nat) < 2 ^ n
    exact Nat.lt_of_lt_of_le (by decide) (Nat.pow_le_pow_right (by decide) h1)
theorem dv_nonneg {a b : Int} (ha : 0 ≤ a) (hb : 0 < b) : 0 ≤ Rat.divInt a b := by
  rw [← Rat.num_nonneg]
  refine Int.not_lt.mp fun h => ?_
  have e := divInt_cross (a := a) (b := b) (by omega)
  have h1 := Int.mul_nonneg ha (show (0 : Int) ≤ (Rat.divInt a b).den by omega)
  have h2 := Int.mul_neg_of_neg_of_pos h hb
  omega
theorem dv_pos {a b : Int} (ha : 0 < a) (hb : 0 < b) : 0 < Rat.divInt a b := by
  have h1 := dv_nonneg (a := a) (by omega) hb
  have h2 : Rat.divInt a b ≠ 0 := fun z => by
    have e := divInt_cross (a := a) (b := b) (by omega)
    rw [z] at e
    have : (0 : Rat).num = 0 := rfl
    rw [this] at e
    have h3 : ((0 : Rat).den : Int) = 1 := rfl
    rw [h3] at e
    omega
  grind
theorem Qneg (r : Rat) : Va.tup [.int (-r.num), .int r.den] = Qv (-r) := by
  unfold Qv
  rw [Rat.neg_num, Rat.neg_den]
def found (n : Nat) (W : Nat → Rat) (lv : Option Rat) (rs : List (List Nat)) : Va := .tup [.lst (wv n W), OQ lv, .lst (rs.map fun r => .lst (ivs r))]
theorem pl_found (n : Nat) (W : Nat → Rat) (lv : Option Rat) (rs : List (List Nat)) : pl (found n W lv rs) = true := by
  have h1 := pls_wv n W
  have h2 : pl (OQ lv) = true := by cases lv <;> rfl
  have h3 : pls (rs.map fun r => .lst (ivs r)) = true := pls_iff.mpr fun x hx => by
    obtain ⟨r, _, rfl⟩ := List.mem_map.mp hx
    exact pls_ivs r
  simp only [found, pl, pls, h1, h2, h3, Bool.and_self]
theorem lfrac_ok {T : Tab} (t : LqT T) (t1 : T "_law_fraction" = some AQ.f_l_fraction) (k : Nat) (r : Rat) {n : Nat} (hr : BQ n r) (hn : n ≤ 8900) {S : Sto} {P : PV} {E : PX} (h : P (.bl true) S) : call T (k + 2) "_law_fraction" [Qv r] S P E := by
  refine call_def t1 rfl ?_
  unfold AQ.f_l_fraction
  have hd := r.den_pos
  refine seq_to (call_mono _ _) [some (Qv r), none] S (by unfold Qv; walk_at "am") ?_
  refine seq_to (call_mono _ _) [some (Qv r), some (.int r.den)] S ?_ ?_
  · unfold Qv
    walk_at "am"
    refine for_ix (call_mono _ _) (fun i Γ S' => S = S' ∧ ∃ o, (i = 2 → o = some (.int r.den)) ∧ Γ = [some (.tup [.int r.num, .int r.den]), o]) ?_ ?_ ?_
    · exact ⟨rfl, none, fun z => by omega, rfl⟩
    · rintro i x Γ S' hx ⟨rfl, o, _, rfl⟩
      match i, hx with
      | 0, hx => cases hx; refine ⟨_, rfl, ?_⟩; walk_at "am"; exact ⟨_, fun z => by omega, rfl⟩
      | 1, hx => cases hx; refine ⟨_, rfl, ?_⟩; walk_at "am"; exact ⟨_, fun z => rfl, rfl⟩
    · rintro Γ S' ⟨rfl, o, ho, rfl⟩
      rw [ho rfl]
      exact ⟨rfl, rfl⟩
  unfold Qv
  walk_at "am"
  rw [if_pos (by omega)]
  refine low_ok t k _ _ (by omega) hr.2 (by omega) ?_
  rw [Rat.num_divInt_den]
  show wCmp .eq (Qv r) (Qv r) S _
  rw [eqQ, decide_eq_true rfl]
  exact fin_keep h
theorem sumW_succ (n : Nat) (W : Nat → Rat) : sumW (n + 1) W = sumW n W + W n := by
  unfold sumW
  rw [List.range_succ, List.map_append, List.map_singleton, sumQ_snoc]
theorem sumW_B {n m : Nat} {W : Nat → Rat} (h : ∀ j, j < n → BQ m (W j)) : BQ (n * (m + 1) + 1) (sumW n W) := by
  have := sumQ_B (m := m) (qs := (List.range n).map W) fun q hq => by
    obtain ⟨j, h1, rfl⟩ := List.mem_map.mp hq
    exact h j (List.mem_range.mp h1)
  rw [List.length_map, List.length_range] at this
  exact this
theorem beg_bnd {t : Itm} {q : Rat} (h : t.bnd true = some q) : t.beg ≤ q := by
  unfold Itm.bnd at h
  rw [if_pos rfl] at h
  cases e : t.most with
  | none => rw [e] at h; cases h
  | some r =>
    rw [e] at h
    simp only [Option.some.injEq] at h
    subst h
    unfold Itm.beg
    rw [e]
    show (if _ then _ else if _ then _ else _) ≤ _
    grind
theorem least_beg {t : Itm} : t.least ≤ t.beg := by
  unfold Itm.beg
  cases e : t.most with
  | none => show (if _ then _ else _) ≥ _; grind
  | some r => show (if _ then _ else if _ then _ else _) ≥ _; grind
theorem dat_its (its : List Itm) : dat (.lst (its.map Itm.va)) = true ∧ dep (.lst (its.map Itm.va)) ≤ 64 := by
  refine ⟨dats_iff.mpr fun x hx => ?_, Nat.le_trans (Nat.succ_le_succ (deps_le (n := 3) fun x hx => ?_)) (by decide)⟩
  · obtain ⟨q, _, rfl⟩ := List.mem_map.mp hx
    unfold Itm.va; cases q.most <;> rfl
  · obtain ⟨q, _, rfl⟩ := List.mem_map.mp hx
    unfold Itm.va
    cases q.most with
    | none => show (2 : Nat) ≤ 3; decide
    | some r => show (2 : Nat) ≤ 3; decide
theorem Rnd.rslen {n : Nat} {room : Rat} {g : Bool} {s : Nat → Rat} {b : Nat → Option Rat} {W0 W : Nat → Rat} {left : List Nat} {lv : Option Rat} {rs : List (List Nat)} (h : Rnd n room g s b W0 left W lv rs) : rs.length ≤ left.length := by
  induction h with
  | out W => exact Nat.le_refl _
  | done W left _ _ => exact Nat.zero_le _
  | step W left W' lv rs hne hbn _ ih =>
    have hlt : (left.filter fun k => !decide (k ∈ bey n room g s b W left)).length < left.length := by
      rw [List.length_filter_lt_length_iff_exists]
      cases hb : bey n room g s b W left with
      | nil => exact absurd hb hbn
      | cons a r =>
        refine ⟨a, ?_, by simp⟩
        have : a ∈ bey n room g s b W left := by rw [hb]; exact List.mem_cons_self
        exact (List.mem_filter.mp this).1
    rw [List.length_cons]
    omega
/-- the rounds look at the shares of the things alone -/
theorem Rnd.congr {n : Nat} {room : Rat} {g : Bool} {s s' : Nat → Rat} {b : Nat → Option Rat} {W0 W : Nat → Rat} {left : List Nat} {lv : Option Rat} {rs : List (List Nat)} (h : Rnd n room g s b W0 left W lv rs) : Ix n left → (∀ k, k < n → s k = s' k) → Rnd n room g s' b W0 left W lv rs := by
  have hlev : ∀ (W : Nat → Rat) (left : List Nat), Ix n left → (∀ k, k < n → s k = s' k) → lev n room s W left = lev n room s' W left := fun W left hI he => by
    unfold lev
    rw [sumQ_congr fun k hk => he k (hI.lt hk)]
  have hbey : ∀ (W : Nat → Rat) (left : List Nat), Ix n left → (∀ k, k < n → s k = s' k) → bey n room g s b W left = bey n room g s' b W left := fun W left hI he => by
    unfold bey
    refine List.filter_congr fun k hk => ?_
    rw [hlev W left hI he]
    unfold wayR
    rw [he k (hI.lt hk)]
  induction h with
  | out W => exact fun _ _ => .out W
  | done W left hne hb =>
    intro hI he
    have e1 := hlev W left hI he
    have e2 : setL (wayR g s W (lev n room s W left)) W left = setL (wayR g s' W (lev n room s' W left)) W left := by
      funext k
      unfold setL
      by_cases hk : k ∈ left
      · rw [if_pos hk, if_pos hk, e1]
        unfold wayR
        rw [he k (hI.lt hk)]
      · rw [if_neg hk, if_neg hk]
    rw [e2, e1]
    exact .done W left hne (by rw [← hbey W left hI he]; exact hb)
  | step W left W' lv rs hne hbn _ ih =>
    intro hI he
    have e := hbey W left hI he
    have h1 := ih (hI.filter _) he
    rw [e] at h1 hbn ⊢
    exact .step W left W' lv rs hne hbn h1
end FR
end

section
set_option linter.all false
set_option maxRecDepth 100000
set_option maxHeartbeats 2000000
/-! Flows: what things come to in one line, lines counted. -/
open PySem
namespace AM
def f_come_to : Fn := ⟨["widths", "gap"], ["widths", "gap"],
  (.cons (.ite (.val (.cmp .eq (.var 0) (.lst .nil))) (.cons (.ret (.tup (.cons (.int 0) (.cons (.int 1) .nil))))
  .nil) .nil)
  (.cons (.ret (.call "plus" (.cons (.call "total" (.cons (.var 0) .nil)) (.cons (.call "times" (.cons (.var 1) (.cons (.tup (.cons (.bin .sub (.len (.var 0)) (.int 1)) (.cons (.int 1) .nil))) .nil))) .nil))))
  .nil))⟩
def f_flow_of : Fn := ⟨["word"], ["word"],
  (.cons (.ite (.val (.cmp .eq (.var 0) (.str "stack"))) (.cons (.ret (.make0 "Stack"))
  .nil) .nil)
  (.cons (.ite (.val (.cmp .eq (.var 0) (.str "wrap"))) (.cons (.ret (.make0 "Wrap"))
  .nil) .nil)
  (.cons (.ite (.val (.cmp .eq (.var 0) (.str "fair"))) (.cons (.ret (.make0 "Fair"))
  .nil) .nil)
  (.cons (.ret (.make0 "Flow"))
  .nil))))⟩
def f_Flow_breadth : Fn := ⟨["self", "widths", "gap"], ["self", "widths", "gap"],
  (.cons (.ret (.call "come_to" (.cons (.var 1) (.cons (.var 2) .nil))))
  .nil)⟩
def f_Stack_breadth : Fn := ⟨["self", "widths", "gap"], ["self", "widths", "gap", "widest", "width"],
  (.cons (.set 3 (.tup (.cons (.int 0) (.cons (.int 1) .nil))))
  (.cons (.for_ (.name 4) (.seq (.var 1)) (.cons (.ite (.val (.call "less" (.cons (.var 3) (.cons (.var 4) .nil)))) (.cons (.set 3 (.var 4))
  .nil) .nil)
  .nil))
  (.cons (.ret (.var 3))
  .nil)))⟩
def f_Flow_counts : Fn := ⟨["self", "widths", "gap", "room"], ["self", "widths", "gap", "room"],
  (.cons (.ite (.val (.cmp .eq (.var 1) (.lst .nil))) (.cons (.ret (.lst .nil))
  .nil) .nil)
  (.cons (.ret (.lst (.cons (.len (.var 1)) .nil)))
  .nil))⟩
def f_Stack_counts : Fn := ⟨["self", "widths", "gap", "room"], ["self", "widths", "gap", "room", "width"],
  (.cons (.ret (.comp [4] (.int 1) (.name 4) (.seq (.var 1)) .none))
  .nil)⟩
def f_Wrap_counts : Fn := ⟨["self", "widths", "gap", "room"], ["self", "widths", "gap", "room", "found", "taken", "filled", "width", "longer"],
  (.cons (.set 4 (.lst .nil))
  (.cons (.set 5 (.int 0))
  (.cons (.set 6 (.tup (.cons (.int 0) (.cons (.int 1) .nil))))
  (.cons (.for_ (.name 7) (.seq (.var 1)) (.cons (.set 8 (.call "plus" (.cons (.var 6) (.cons (.call "plus" (.cons (.var 2) (.cons (.var 7) .nil))) .nil))))
  (.cons (.ite (.and (.cons (.val (.cmp .gt (.var 5) (.int 0))) (.one (.not (.val (.call "less" (.cons (.var 3) (.cons (.var 8) .nil)))))))) (.cons (.set 6 (.var 8))
  (.cons (.aug 5 .add (.int 1))
  (.cons .cont
  .nil))) .nil)
  (.cons (.ite (.val (.cmp .gt (.var 5) (.int 0))) (.cons (.drop (.mth .append (.var 4) (.cons (.var 5) .nil)))
  .nil) .nil)
  (.cons (.set 6 (.var 7))
  (.cons (.set 5 (.int 1))
  .nil))))))
  (.cons (.ite (.val (.cmp .gt (.var 5) (.int 0))) (.cons (.drop (.mth .append (.var 4) (.cons (.var 5) .nil)))
  .nil) .nil)
  (.cons (.ret (.var 4))
  .nil))))))⟩
end AM
namespace FR
open PySem AM
local macro_rules | `(tactic| walk_at "am") => `(tactic| try simp only [st_set0, st_setS, iteTrue, iteFalse, iteDec, iteNDec, exSome, exBl, W_var, W_int, W_bl, W_non, W_str, W_tup, W_lst, W_bin, W_neg, W_cmp, W_isN, W_notN, W_lrev, wIsb, wNisb, W_chain, W_tst, W_ite, W_call, W_len, W_abs, W_isi, W_sub, WT_val, WT_not, WT_and, WT_or, WA_one, WA_cons, WO_one, WO_cons, WB_val, WB_not, WB_and, WB_or, WBA_one, WBA_cons, WBO_one, WBO_cons, WL_nil, WL_cons, WS_set, WS_ret, WS_retN, WS_pass, WS_brk, WS_cont, WS_drop, WS_ite, WS_raise, WSs_nil, Ss_set, Ss_ret, Ss_retN, Ss_pass, Ss_brk, Ss_cont, Ss_drop, Ss_raise, Ss_ite_ret, Ss_ite_retN, Ss_ite_raise, Ss_ite_cont, Ss_ite_brk, Ss_ite_last, gt_0, gt_S, wAdd_int, wSub_int, wMul_int, wMul_rep, wDiv_int, wMod_int, wPow_int, wAdd_str, wNeg_int, wAbs_int, wLt_int, wLe_int, wGt_int, wGe_int, wEq_int, wNe_int, wEq_bl, wNe_bl, wEq_str, wNe_str, wLen_tup, wLen_lst, tru_bl, tru_int, ty_int_int, ty_int_bool, ty_int_str, ty_int_tuple, ty_int_list, ty_int_dict, ty_bl_int, ty_bl_bool, ty_bl_str, ty_bl_tuple, ty_bl_list, ty_bl_dict, ty_str_int, ty_str_bool, ty_str_str, ty_str_tuple, ty_str_list, ty_str_dict, ty_tup_int, ty_tup_bool, ty_tup_str, ty_tup_tuple, ty_tup_list, ty_tup_dict, ty_lst_int, ty_lst_bool, ty_lst_str, ty_lst_tuple, ty_lst_list, ty_lst_dict, ty_dct_int, ty_dct_bool, ty_dct_str, ty_dct_tuple, ty_dct_list, ty_dct_dict, ty_non, sub_tup0, sub_tup1, sub_tup2, sub_tup3, sub_tup4, sub_tup5, sub_lst0, sub_lst1, sub_lst2, sub_lst3, sub_lst4, sub_lst5, startA, List.map_cons, List.map_nil, List.length_cons, List.length_nil, List.replicate, List.cons_append, List.nil_append, true_and, and_true, ne_eq, isNon, Bool.not_true, Bool.not_false, Bool.true_or, Bool.or_true, Bool.false_or, reduceIte, Nat.reduceAdd, Nat.zero_add, Int.cast_ofNat_Int, Int.reduceEq, Int.reduceLT, Int.reduceLE, Nat.reduceLeDiff, decide_true, decide_false, not_true_eq_false, not_false_eq_true, Nat.reduceSub, Int.reduceToNat, W_slice, W_blt, W_mth, W_comp, WOe_none, WOe_some, WI_seq, WI_range1, WI_range2, WI_enum, WI_zip, WI_rev, WT0_none, WT0_some, Ss_asg, Ss_setSub, Ss_aug, WS_asg, WS_aug, WS_for, WS_setC, bT_name, bT_tup, bT_lst, bTs_nil, bTs_name, seq_lst, seq_tup, seq_scr, seq_str, seq_loc, lst_lst, lst_scr, lst_loc, exInt, exLoc, exLst, exLst1, exLV_lst, exLV_loc, mOk_app, mOk_pop, mOk_ext, mOk_ins, mOk_ind, mOk_join, mOk_indl, m_append, m_pop, m_extend, m_insert, m_join, b_listL, b_listT, b_listS, b_listK, b_tupL, b_tupT, b_tupK, b_max2, b_min2, b_ord, b_str, sl_lst, sl_loc, sl_scr, sl_tupE, sl_strE, cat_lst, cat_loc, cat_tup, wLen_scr, wLen_loc, wLen_str, wSub_scr, wSub_loc, wSub_str, aug_add, aug_sub, tru_lst, tru_tup, tru_non, ty_scr_list, sg_p0, sg_pl, ss_p0, ss_pl, ob_set0, ob_set1, ob_set2, ob_set3, ob_g0, ob_g1, ob_g2, ob_g3, List.append_assoc, List.length_append, List.nil_append, Nat.add_zero, Nat.add_assoc, Int.reduceNeg, wipeA, orc_run, orc_glob, orc_init, orc_isa, orc_gdct, W_isc, b_intB, W_glob, W_gget, W_fld, W_mcall, W_make, W_make0, W_dsp, Ss_setFld, subO_l, subO_d, lenO_l, lenO_d, listO_l, listO_d, putO_l, keyV_int, keyV_str, wIn_str, wNotin_str, mapSome, at_0, at_1, at_2, at_3, at_4, at_5, ix_1_0, ix_2_0, ix_2_1, ix_3_0, ix_3_1, ix_3_2, ix_4_0, ix_4_1, ix_4_2, ix_4_3, va_s0, va_s1, va_s2, va_s3])
local macro_rules | `(tactic| walk_at "if") => `(tactic| (try simp only []); rw [Ss_ite]; simp only [st_set0, st_setS, iteTrue, iteFalse, iteDec, iteNDec, exSome, exBl, W_var, W_int, W_bl, W_non, W_str, W_tup, W_lst, W_bin, W_neg, W_cmp, W_isN, W_notN, W_lrev, wIsb, wNisb, W_chain, W_tst, W_ite, W_call, W_len, W_abs, W_isi, W_sub, WT_val, WT_not, WT_and, WT_or, WA_one, WA_cons, WO_one, WO_cons, WB_val, WB_not, WB_and, WB_or, WBA_one, WBA_cons, WBO_one, WBO_cons, WL_nil, WL_cons, WS_set, WS_ret, WS_retN, WS_pass, WS_brk, WS_cont, WS_drop, WS_ite, WS_raise, WSs_nil, Ss_set, Ss_ret, Ss_retN, Ss_pass, Ss_brk, Ss_cont, Ss_drop, Ss_raise, Ss_ite_ret, Ss_ite_retN, Ss_ite_raise, Ss_ite_cont, Ss_ite_brk, Ss_ite_last, gt_0, gt_S, wAdd_int, wSub_int, wMul_int, wMul_rep, wDiv_int, wMod_int, wPow_int, wAdd_str, wNeg_int, wAbs_int, wLt_int, wLe_int, wGt_int, wGe_int, wEq_int, wNe_int, wEq_bl, wNe_bl, wEq_str, wNe_str, wLen_tup, wLen_lst, tru_bl, tru_int, ty_int_int, ty_int_bool, ty_int_str, ty_int_tuple, ty_int_list, ty_int_dict, ty_bl_int, ty_bl_bool, ty_bl_str, ty_bl_tuple, ty_bl_list, ty_bl_dict, ty_str_int, ty_str_bool, ty_str_str, ty_str_tuple, ty_str_list, ty_str_dict, ty_tup_int, ty_tup_bool, ty_tup_str, ty_tup_tuple, ty_tup_list, ty_tup_dict, ty_lst_int, ty_lst_bool, ty_lst_str, ty_lst_tuple, ty_lst_list, ty_lst_dict, ty_dct_int, ty_dct_bool, ty_dct_str, ty_dct_tuple, ty_dct_list, ty_dct_dict, ty_non, sub_tup0, sub_tup1, sub_tup2, sub_tup3, sub_tup4, sub_tup5, sub_lst0, sub_lst1, sub_lst2, sub_lst3, sub_lst4, sub_lst5, startA, List.map_cons, List.map_nil, List.length_cons, List.length_nil, List.replicate, List.cons_append, List.nil_append, true_and, and_true, ne_eq, isNon, Bool.not_true, Bool.not_false, Bool.true_or, Bool.or_true, Bool.false_or, reduceIte, Nat.reduceAdd, Nat.zero_add, Int.cast_ofNat_Int, Int.reduceEq, Int.reduceLT, Int.reduceLE, Nat.reduceLeDiff, decide_true, decide_false, not_true_eq_false, not_false_eq_true, Nat.reduceSub, Int.reduceToNat, W_slice, W_blt, W_mth, W_comp, WOe_none, WOe_some, WI_seq, WI_range1, WI_range2, WI_enum, WI_zip, WI_rev, WT0_none, WT0_some, Ss_asg, Ss_setSub, Ss_aug, WS_asg, WS_aug, WS_for, WS_setC, bT_name, bT_tup, bT_lst, bTs_nil, bTs_name, seq_lst, seq_tup, seq_scr, seq_str, seq_loc, lst_lst, lst_scr, lst_loc, exInt, exLoc, exLst, exLst1, exLV_lst, exLV_loc, mOk_app, mOk_pop, mOk_ext, mOk_ins, mOk_ind, mOk_join, mOk_indl, m_append, m_pop, m_extend, m_insert, m_join, b_listL, b_listT, b_listS, b_listK, b_tupL, b_tupT, b_tupK, b_max2, b_min2, b_ord, b_str, sl_lst, sl_loc, sl_scr, sl_tupE, sl_strE, cat_lst, cat_loc, cat_tup, wLen_scr, wLen_loc, wLen_str, wSub_scr, wSub_loc, wSub_str, aug_add, aug_sub, tru_lst, tru_tup, tru_non, ty_scr_list, sg_p0, sg_pl, ss_p0, ss_pl, ob_set0, ob_set1, ob_set2, ob_set3, ob_g0, ob_g1, ob_g2, ob_g3, List.append_assoc, List.length_append, List.nil_append, Nat.add_zero, Nat.add_assoc, Int.reduceNeg, wipeA, orc_run, orc_glob, orc_init, orc_isa, orc_gdct, W_isc, b_intB, W_glob, W_gget, W_fld, W_mcall, W_make, W_make0, W_dsp, Ss_setFld, subO_l, subO_d, lenO_l, lenO_d, listO_l, listO_d, putO_l, keyV_int, keyV_str, wIn_str, wNotin_str, mapSome, at_0, at_1, at_2, at_3, at_4, at_5, ix_1_0, ix_2_0, ix_2_1, ix_3_0, ix_3_1, ix_3_2, ix_4_0, ix_4_1, ix_4_2, ix_4_3, va_s0, va_s1, va_s2, va_s3])
/-! ### sizes: sums of things -/
/-- X k: what k things come to at most -/
structure Szs (X : Nat → Rat → Prop) (K : Nat) : Prop where
  add : ∀ {j k : Nat} {x y : Rat}, X j x → X k y → X (j + k) (x + y)
  up : ∀ {j k : Nat} {x : Rat}, X j x → j ≤ k → X k x
  big : ∀ {k : Nat} {x : Rat}, k ≤ K → X k x → BQ 2000 x
  zero : X 1 0
theorem Szs.sum {X : Nat → Rat → Prop} {K : Nat} (h : Szs X K) : ∀ qs : List Rat, (∀ q ∈ qs, X 1 q) → X (qs.length + 1) (sumQ qs) := by
  refine snoc_ind ?_ ?_
  · intro _; exact h.zero
  · intro qs q ih hq
    rw [sumQ_snoc, List.length_append, List.length_singleton]
    exact h.up (h.add (ih fun x hx => hq x (List.mem_append_left _ hx)) (hq q (by simp))) (by omega)
theorem Szs.mul {X : Nat → Rat → Prop} {K : Nat} (h : Szs X K) {g : Rat} (hg : X 1 g) : ∀ n : Nat, X (n + 1) (g * ((n : Int) : Rat)) := by
  intro n
  induction n with
  | zero =>
    have e : g * (((0 : Nat) : Int) : Rat) = 0 := by simp
    rw [e]; exact h.zero
  | succ n ih =>
    have e : g * (((n + 1 : Nat) : Int) : Rat) = g * ((n : Int) : Rat) + g := by
      have : (((n + 1 : Nat) : Int) : Rat) = ((n : Int) : Rat) + 1 := by push_cast; rfl
      rw [this]; grind
    rw [e]
    exact h.add ih hg
/-- any fractions, few of them -/
def Xn (m : Nat) (k : Nat) (x : Rat) : Prop := 1 ≤ k ∧ BQ (k * (m + 1) - 1) x
theorem Xn_szs {m : Nat} (hm : 1 ≤ m) {K : Nat} (hK : K * (m + 1) ≤ 2000) : Szs (Xn m) K where
  add := fun {j k x y} ⟨h1, h2⟩ ⟨h3, h4⟩ => by
    refine ⟨by omega, (h2.add2 h4).mono ?_⟩
    have e : (j + k) * (m + 1) = j * (m + 1) + k * (m + 1) := Nat.add_mul _ _ _
    have e1 : 1 * (m + 1) ≤ j * (m + 1) := Nat.mul_le_mul_right _ h1
    have e2 : 1 * (m + 1) ≤ k * (m + 1) := Nat.mul_le_mul_right _ h3
    omega
  up := fun {j k x} ⟨h1, h2⟩ l => by
    refine ⟨by omega, h2.mono ?_⟩
    have e1 : j * (m + 1) ≤ k * (m + 1) := Nat.mul_le_mul_right _ l
    omega
  big := fun {k x} l ⟨h1, h2⟩ => by
    have e1 : k * (m + 1) ≤ K * (m + 1) := Nat.mul_le_mul_right _ l
    exact h2.mono (by omega)
  zero := ⟨by omega, BQ.mono ⟨(show (0 : Nat) < 2 ^ 1 by decide), (show (1 : Nat) < 2 ^ 1 by decide)⟩ (by omega)⟩
theorem Xn.of {m : Nat} {x : Rat} (h : BQ m x) : Xn m 1 x := ⟨Nat.le_refl _, h.mono (by omega)⟩
/-- fractions over one number -/
def Xd (D : Int) (N : Nat) (k : Nat) (x : Rat) : Prop := 1 ≤ k ∧ ∃ a : Int, B (N + k) a ∧ x * (D : Rat) = (a : Rat)
theorem Xd_szs {D : Int} (hD : 0 < D) (hD2 : D < 2 ^ 100) {N K : Nat} (hN : 100 ≤ N) (hK : N + K ≤ 2000) : Szs (Xd D N) K where
  add := fun {j k x y} ⟨l1, a, h1, h2⟩ ⟨l2, b, h3, h4⟩ => by
    refine ⟨by omega, a + b, ?_, ?_⟩
    · by_cases hjk : j ≤ k
      · exact (B.add (h1.mono (show N + j ≤ N + k by omega)) h3).mono (by omega)
      · exact (B.add h1 (h3.mono (show N + k ≤ N + j by omega))).mono (by omega)
    · have e : ((a + b : Int) : Rat) = (a : Rat) + b := by exact_mod_cast rfl
      rw [e]
      grind
  up := fun {j k x} ⟨l1, a, h1, h2⟩ l => ⟨by omega, a, h1.mono (by omega), h2⟩
  big := fun {k x} l ⟨l1, a, h1, h2⟩ => by
    have e0 : (D : Rat) ≠ 0 := by
      intro z
      have : D = 0 := by exact_mod_cast z
      omega
    have e : x = Rat.divInt a D := by
      rw [Rat.divInt_eq_div, ← h2]
      grind
    rw [e]
    refine BQ.mono (BQ.of (n := N + K) (h1.mono (by omega)) ?_ (by omega)) (by omega)
    exact (show B 100 D from (show D.natAbs < 2 ^ 100 by omega)).mono (by omega)
  zero := ⟨Nat.le_refl _, 0, (show (0 : Nat) < 2 ^ (N + 1) from Nat.pow_pos (by decide)), by simp⟩
theorem Xd.frac {D : Int} {N M : Nat} {a b c : Int} (h : B N a) (hb : 0 < b) (hc : b * c = D) (hcM : B M c) {x : Rat} (hx : x = Rat.divInt a b) : Xd D (N + M) 1 x := by
  refine ⟨Nat.le_refl _, a * c, (h.mul hcM).mono (by omega), ?_⟩
  rw [hx, Rat.divInt_eq_div]
  have e : ((a * c : Int) : Rat) = (a : Rat) * c := by exact_mod_cast rfl
  have e2 : (b : Rat) * c = D := by exact_mod_cast congrArg (fun z : Int => (z : Rat)) hc
  have e3 : (b : Rat) ≠ 0 := by
    intro z
    have : b = 0 := by exact_mod_cast z
    omega
  rw [e, ← e2]
  grind
/-! ### slices -/
theorem cut_from {α : Type} {xs : List α} {k : Nat} : cutA xs (some (k : Int)) none = xs.drop k := by
  unfold cutA
  rw [HT.sIx_nat, HT.sIx_none]
  by_cases h : k ≤ xs.length
  · rw [Nat.min_eq_left h, List.take_of_length_le (by rw [List.length_drop]; omega)]
  · rw [Nat.min_eq_right (by omega), List.drop_length, List.drop_eq_nil_of_le (by omega), List.take_nil]
theorem cut_to {α : Type} {xs : List α} {k : Nat} : cutA xs none (some (k : Int)) = xs.take k := by
  unfold cutA
  rw [HT.sIx_nat, HT.sIx_none, Nat.sub_zero, List.drop_zero]
  by_cases h : k ≤ xs.length
  · rw [Nat.min_eq_left h]
  · rw [Nat.min_eq_right (by omega), List.take_length, List.take_of_length_le (by omega)]
theorem cut_mid {α : Type} {xs : List α} {a b : Nat} (ha : a ≤ xs.length) : cutA xs (some (a : Int)) (some (b : Int)) = (xs.drop a).take (b - a) := by
  unfold cutA
  rw [HT.sIx_nat, HT.sIx_nat, Nat.min_eq_left ha]
  by_cases h : b ≤ xs.length
  · rw [Nat.min_eq_left h]
  · rw [Nat.min_eq_right (by omega), List.take_of_length_le (by rw [List.length_drop]; omega), List.take_of_length_le (by rw [List.length_drop]; omega)]
/-! ### come_to -/
def comeQ (g : Rat) (qs : List Rat) : Rat := if qs = [] then 0 else sumQ qs + g * (((qs.length : Int) - 1 : Int) : Rat)
def maxQ (qs : List Rat) : Rat := qs.foldl (fun m q => if m < q then q else m) 0
theorem maxQ_snoc (qs : List Rat) (q : Rat) : maxQ (qs ++ [q]) = if maxQ qs < q then q else maxQ qs := by
  unfold maxQ
  rw [List.foldl_append]
  rfl
theorem maxQ_all {p : Rat → Prop} (h0 : p 0) : ∀ qs : List Rat, (∀ q ∈ qs, p q) → p (maxQ qs) := by
  refine snoc_ind (fun _ => h0) fun qs q ih h => ?_
  rw [maxQ_snoc]
  split
  · exact h q (by simp)
  · exact ih fun x hx => h x (List.mem_append_left _ hx)
structure FlT (T : Tab) : Prop where
  divisor : T "divisor" = some f_divisor
  fraction : T "fraction" = some f_fraction
  plus : T "plus" = some f_plus
  less : T "less" = some f_less
  flow_of : T "flow_of" = some f_flow_of
  i1 : T.init "Stack" = some none
  i2 : T.init "Wrap" = some none
  i3 : T.init "Fair" = some none
  i4 : T.init "Flow" = some none
structure FbT (T : Tab) : Prop extends FlT T where
  times : T "times" = some f_times
  total : T "total" = some f_total
  come_to : T "come_to" = some f_come_to
  fb : T "Flow.breadth" = some f_Flow_breadth
  sb : T "Stack.breadth" = some f_Stack_breadth
structure FcT (T : Tab) : Prop extends FlT T where
  fc : T "Flow.counts" = some f_Flow_counts
  sc : T "Stack.counts" = some f_Stack_counts
  wc : T "Wrap.counts" = some f_Wrap_counts
section
variable {T : Tab} {X : Nat → Rat → Prop} {K : Nat}
theorem total2_ok (t : FbT T) (z : Szs X K) (k : Nat) (qs : List Rat) (hq : ∀ q ∈ qs, X 1 q) (hl : qs.length + 1 ≤ K) {v : Va} {S : Sto} {P : PV} {E : PX} (hv : LV S v (qs.map Qv)) (h : P (Qv (sumQ qs)) S) : call T (k + 4) "total" [v] S P E := by
  refine call_def t.total rfl ?_
  unfold f_total
  walk_at "am"
  refine seq_cut (call_mono _ _) (fun Γ S' => S = S' ∧ ∃ o, Γ = [some v, some (Qv (sumQ qs)), o]) ?_ ?_
  · walk_at "am"
    refine hv.seq fun G hG => ⟨hG _ fun _ _ z => z, ?_⟩
    refine for_ix (call_mono _ _) (fun i Γ S' => S = S' ∧ ∃ o, Γ = [some v, some (Qv (sumQ (qs.take i))), o]) ?_ ?_ ?_
    · exact ⟨rfl, none, rfl⟩
    · rintro i x Γ S' hx ⟨rfl, o, rfl⟩
      rw [List.getElem?_map] at hx
      obtain ⟨q, h1, rfl⟩ := Option.map_eq_some_iff.mp hx
      refine ⟨_, rfl, ?_⟩
      walk_at "am"
      have hi : i < qs.length := lt_of_get h1
      have hb := z.sum (qs.take i) fun x hx => hq x (List.mem_of_mem_take hx)
      rw [List.length_take, Nat.min_eq_left (by omega)] at hb
      refine plus_ok t.divisor t.fraction t.plus k _ _ (n := 2000) (z.big (by omega) hb) (z.big (by omega) (hq q (List.mem_of_getElem? h1))) (by omega) ?_
      rw [← sumQ_snoc, ← take_snoc h1]
      exact ⟨hG _ fun _ _ z => z, rfl, _, rfl⟩
    · rintro Γ S' ⟨rfl, o, rfl⟩
      rw [List.length_map, List.take_length]
      exact ⟨rfl, o, rfl⟩
  rintro Γ' S' ⟨rfl, o, rfl⟩
  walk_at "am"
  exact fin_keep h
theorem come_ok (t : FbT T) (z : Szs X K) (k : Nat) (qs : List Rat) (g : Rat) (hq : ∀ q ∈ qs, X 1 q) (hg : X 1 g) (hl : qs.length + 2 ≤ K) (hl2 : qs.length ≤ 100000) {v : Va} {S : Sto} {P : PV} {E : PX} (hv : LV S v (qs.map Qv)) (h : P (Qv (comeQ g qs)) S) : call T (k + 5) "come_to" [v, Qv g] S P E := by
  refine call_def t.come_to rfl ?_
  unfold f_come_to
  walk_at "am"
  obtain ⟨d1, d2⟩ := datsQ qs
  refine eq_nil (hv.more _) LV.here d1 (Nat.le_trans d2 (by decide)) ?_
  refine ⟨_, rfl, ?_⟩
  cases qs with
  | nil => exact fin_val rfl h
  | cons q qs =>
    walk_at "am"
    refine total2_ok t z k _ hq (by omega) (hv.more _) ?_
    refine (hv.more _).len ?_
    rw [List.length_map]
    walk_at "am"
    rw [← Qint]
    have hm := z.mul hg (q :: qs).length
    have b1 : BQ 2000 ((((q :: qs).length : Int) - 1 : Int) : Rat) := (BQint (n := 20) (by rw [List.length_cons] at hl2 ⊢; omega) (by decide)).mono (by decide)
    refine times_ok t.divisor t.fraction t.times _ _ _ (n := 2000) (z.big (by omega) hg) b1 (by decide) ?_
    have e : ((q :: qs).length : Int) - 1 = (qs.length : Nat) := by rw [List.length_cons]; omega
    have hm := z.mul hg qs.length
    have hs := z.sum _ hq
    refine plus_ok t.divisor t.fraction t.plus _ _ _ (n := 2000) (z.big (by omega) hs) ?_ (by decide) ?_
    · rw [e]
      exact z.big (by rw [List.length_cons] at hl; omega) hm
    · exact fin_val (plQ _) h
theorem fbreadth_ok (t : FbT T) (z : Szs X K) (k : Nat) (qs : List Rat) (g : Rat) (hq : ∀ q ∈ qs, X 1 q) (hg : X 1 g) (hl : qs.length + 2 ≤ K) (hl2 : qs.length ≤ 100000) {v o : Va} {S : Sto} {P : PV} {E : PX} (hv : LV S v (qs.map Qv)) (h : P (Qv (comeQ g qs)) S) : call T (k + 6) "Flow.breadth" [o, v, Qv g] S P E := by
  refine call_def t.fb rfl ?_
  unfold f_Flow_breadth
  walk_at "am"
  exact come_ok t z k qs g hq hg hl hl2 hv (fin_keep h)
theorem sbreadth_ok (t : FbT T) (z : Szs X K) (k : Nat) (qs : List Rat) (hq : ∀ q ∈ qs, X 1 q) (hK : 1 ≤ K) {v o u : Va} {S : Sto} {P : PV} {E : PX} (hv : LV S v (qs.map Qv)) (h : P (Qv (maxQ qs)) S) : call T (k + 2) "Stack.breadth" [o, v, u] S P E := by
  refine call_def t.sb rfl ?_
  unfold f_Stack_breadth
  walk_at "am"
  refine seq_cut (call_mono _ _) (fun Γ S' => S = S' ∧ ∃ w, Γ = [some o, some v, some u, some (Qv (maxQ qs)), w]) ?_ ?_
  · walk_at "am"
    refine hv.seq fun G hG => ⟨hG _ fun _ _ z => z, ?_⟩
    refine for_ix (call_mono _ _) (fun i Γ S' => S = S' ∧ ∃ w, Γ = [some o, some v, some u, some (Qv (maxQ (qs.take i))), w]) ?_ ?_ ?_
    · exact ⟨rfl, none, rfl⟩
    · rintro i x Γ S' hx ⟨rfl, w, rfl⟩
      rw [List.getElem?_map] at hx
      obtain ⟨q, h1, rfl⟩ := Option.map_eq_some_iff.mp hx
      refine ⟨_, rfl, ?_⟩
      walk_at "am"
      have hb : BQ 2000 (maxQ (qs.take i)) := z.big hK (maxQ_all (p := X 1) z.zero _ fun x hx => hq x (List.mem_of_mem_take hx))
      refine less_ok t.less _ _ _ (n := 2000) hb (z.big hK (hq q (List.mem_of_getElem? h1))) (by decide) ?_
      rw [take_snoc h1, maxQ_snoc]
      walk_at "am"
      split
      · first | exact ⟨hG _ fun _ _ z => z, rfl, _, rfl⟩ | exact ⟨hG _ fun _ _ z => z, _, rfl⟩
      · first | exact ⟨hG _ fun _ _ z => z, rfl, _, rfl⟩ | exact ⟨hG _ fun _ _ z => z, _, rfl⟩
    · rintro Γ S' ⟨rfl, w, rfl⟩
      rw [List.length_map, List.take_length]
      exact ⟨rfl, w, rfl⟩
  rintro Γ' S' ⟨rfl, w, rfl⟩
  walk_at "am"
  exact fin_keep h
/-- a word's flow -/
def clsW (w : Str) : Str := if w = "stack" then "Stack" else if w = "wrap" then "Wrap" else if w = "fair" then "Fair" else "Flow"
theorem flow_ok (t : FlT T) (k : Nat) (w : Str) {S : Sto} {P : PV} {E : PX} (h : P (.loc S.length) (S ++ [.ins (clsW w) []])) : call T (k + 1) "flow_of" [.str w] S P E := by
  refine call_def t.flow_of rfl ?_
  unfold f_flow_of
  unfold clsW at h
  walk_at "am"
  by_cases h1 : w = Str.ofString "stack"
  · rw [if_pos h1] at h ⊢
    exact ⟨t.i1, fin_keep h⟩
  rw [if_neg h1] at h ⊢
  by_cases h2 : w = Str.ofString "wrap"
  · rw [if_pos h2] at h ⊢
    exact ⟨t.i2, fin_keep h⟩
  rw [if_neg h2] at h ⊢
  by_cases h3 : w = Str.ofString "fair"
  · rw [if_pos h3] at h ⊢
    exact ⟨t.i3, fin_keep h⟩
  rw [if_neg h3] at h ⊢
  exact ⟨t.i4, fin_keep h⟩
end
/-! ### lines counted -/
theorem LV.seqx {S : Sto} {v : Va} {xs : List Va} {N : Sto} {I : List Va → (Sto → Prop) → Sto → Prop} (h : LV S v xs) (hI : ∀ G : Sto → Prop, (∀ S', (∃ M, S' = S ++ M) → G S') → I xs G (S ++ N)) : wSeq v (S ++ N) I := by
  rcases h with rfl | ⟨k, rfl, hk⟩
  · exact hI _ fun _ _ => trivial
  · exact ⟨xs, kept_app _ _ hk, hI _ fun S' ⟨M, e⟩ => by rw [e]; exact kept_app _ _ hk⟩
theorem LV.seq0 {S : Sto} {v : Va} {xs : List Va} {I : List Va → (Sto → Prop) → Sto → Prop} (h : LV S v xs) (hI : ∀ G : Sto → Prop, (∀ S', (∃ M, S' = S ++ M) → G S') → I xs G S) : wSeq v S I := by
  have := LV.seqx (N := []) (I := I) h (by rw [List.append_nil]; exact hI)
  rwa [List.append_nil] at this
def sl (qs : List Rat) (b c : Nat) : List Rat := (qs.drop b).take c
theorem sl_snoc {qs : List Rat} {b c : Nat} {q : Rat} (h : qs[b + c]? = some q) : sl qs b (c + 1) = sl qs b c ++ [q] := by
  unfold sl
  exact take_snoc (by rw [List.getElem?_drop]; exact h)
theorem sl_len {qs : List Rat} {b c : Nat} (h : b + c ≤ qs.length) : (sl qs b c).length = c := by
  unfold sl; rw [List.length_take, List.length_drop]; omega
theorem sl_mem {qs : List Rat} {b c : Nat} {q : Rat} (h : q ∈ sl qs b c) : q ∈ qs := List.mem_of_mem_drop (List.mem_of_mem_take h)
/-- lines as wrap makes them -/
structure Wp (g room : Rat) (qs : List Rat) (cs : List Nat) : Prop where
  fits : ∀ i c, cs[i]? = some c → 1 < c → ¬ room < comeQ g (sl qs (cs.take i).sum c)
  more : ∀ i c, cs[i]? = some c → (cs.take i).sum + c < qs.length → room < comeQ g (sl qs (cs.take i).sum (c + 1))
theorem Wp.snoc {g room : Rat} {qs : List Rat} {cs : List Nat} (h : Wp g room qs cs) {c : Nat} (h1 : 1 < c → ¬ room < comeQ g (sl qs cs.sum c)) (h2 : cs.sum + c < qs.length → room < comeQ g (sl qs cs.sum (c + 1))) : Wp g room qs (cs ++ [c]) := by
  have key : ∀ i d, (cs ++ [c])[i]? = some d → (cs[i]? = some d ∧ (cs ++ [c]).take i = cs.take i) ∨ (d = c ∧ (cs ++ [c]).take i = cs) := fun i d hd => by
    by_cases hi : i < cs.length
    · rw [List.getElem?_append_left hi] at hd
      exact .inl ⟨hd, List.take_append_of_le_length (by omega)⟩
    · have hl := lt_of_get hd
      rw [List.length_append, List.length_singleton] at hl
      have e : i = cs.length := by omega
      subst e
      rw [List.getElem?_append_right (Nat.le_refl _), Nat.sub_self] at hd
      exact .inr ⟨by cases hd; rfl, List.take_left⟩
  refine ⟨fun i d hd => ?_, fun i d hd => ?_⟩
  · rcases key i d hd with ⟨a, b⟩ | ⟨a, b⟩
    · rw [b]; exact h.fits i d a
    · rw [b, a]; exact h1
  · rcases key i d hd with ⟨a, b⟩ | ⟨a, b⟩
    · rw [b]; exact h.more i d a
    · rw [b, a]; exact h2
theorem comeQ_snoc (g : Rat) (qs : List Rat) (q : Rat) : comeQ g (qs ++ [q]) = if 0 < qs.length then comeQ g qs + q + g else q := by
  unfold comeQ
  cases qs with
  | nil =>
    rw [if_pos rfl, if_neg (by simp), if_neg (by decide)]
    show sumQ ([] ++ [q]) + g * (((1 : Int) - 1 : Int) : Rat) = q
    rw [sumQ_snoc]
    show (0 : Rat) + q + g * ((0 : Int) : Rat) = q
    have : ((0 : Int) : Rat) = 0 := rfl
    rw [this]; grind
  | cons a qs =>
    rw [if_neg (by simp), if_pos (by simp), if_neg (by simp), sumQ_snoc]
    have e : ((((a :: qs) ++ [q]).length : Int) - 1) = ((((a :: qs).length : Int) - 1) + 1) := by simp
    rw [e]
    have e2 : ((((((a :: qs).length : Int) - 1) + 1) : Int) : Rat) = (((((a :: qs).length : Int) - 1) : Int) : Rat) + 1 := by push_cast; rfl
    rw [e2]
    grind
theorem Szs.come {X : Nat → Rat → Prop} {K : Nat} (z : Szs X K) {g : Rat} (hg : X 1 g) {qs : List Rat} (hq : ∀ q ∈ qs, X 1 q) : X (2 * qs.length + 1) (comeQ g qs) := by
  unfold comeQ
  cases qs with
  | nil => exact z.zero
  | cons a qs =>
    rw [if_neg (by simp)]
    have e : (((a :: qs).length : Int) - 1) = (qs.length : Nat) := by simp
    rw [e]
    have h1 := z.sum _ hq
    have h2 := z.mul hg qs.length
    exact z.up (z.add h1 h2) (by simp; omega)
section
variable {T : Tab} {X : Nat → Rat → Prop} {K : Nat}
theorem wcounts_ok (t_ : FcT T) (z : Szs X K) (k : Nat) (qs : List Rat) (g room : Rat) (hq : ∀ q ∈ qs, X 1 q) (hg : X 1 g) (hr : BQ 3000 room) (hK : 2 * qs.length + 3 ≤ K) (hl : qs.length ≤ 100000) {v o : Va} {S : Sto} {P : PV} {E : PX} (hv : LV S v (qs.map Qv))
    (h : ∀ cs : List Nat, cs.sum = qs.length → (∀ c ∈ cs, 1 ≤ c) → Wp g room qs cs → P (.loc S.length) (S ++ [.lst (ivs cs)])) : call T (k + 4) "Wrap.counts" [o, v, Qv g, Qv room] S P E := by
  refine call_def t_.wc rfl ?_
  unfold f_Wrap_counts
  walk_at "am"
  have e0 : (Va.tup [.int 0, .int 1]) = Qv 0 := rfl
  rw [e0]
  refine seq_cut (call_mono _ _) (fun Γ S' => ∃ (cs : List Nat) (t : Nat) (f : Rat) (a b : Option Va), S' = S ++ [.lst (ivs cs)] ∧ cs.sum + t = qs.length ∧ cs.length ≤ qs.length ∧ (∀ c ∈ cs, 1 ≤ c) ∧ Wp g room qs cs ∧ (1 < t → ¬ room < comeQ g (sl qs cs.sum t)) ∧
    Γ = [some o, some v, some (Qv g), some (Qv room), some (.loc S.length), some (.int t), some (Qv f), a, b]) ?_ ?_
  · walk_at "am"
    refine LV.seqx hv fun G hG => ⟨hG _ ⟨_, rfl⟩, ?_⟩
    refine for_ix (call_mono _ _) (fun i Γ S' => ∃ (cs : List Nat) (t : Nat) (f : Rat) (a b : Option Va), S' = S ++ [.lst (ivs cs)] ∧ cs.sum + t = i ∧ cs.length ≤ i ∧ i ≤ qs.length ∧ (∀ c ∈ cs, 1 ≤ c) ∧ Wp g room qs cs ∧ (1 < t → ¬ room < comeQ g (sl qs cs.sum t)) ∧ (t = 0 → i = 0) ∧ f = comeQ g (sl qs cs.sum t) ∧
      Γ = [some o, some v, some (Qv g), some (Qv room), some (.loc S.length), some (.int t), some (Qv f), a, b]) ?_ ?_ ?_
    · exact ⟨[], 0, 0, none, none, rfl, rfl, Nat.le_refl _, Nat.zero_le _, by simp, ⟨by simp, by simp⟩, by simp, fun _ => rfl, rfl, rfl⟩
    · rintro i x Γ S' hx ⟨cs, t, f, a, b, rfl, h1, h2, h3, h4, h5, h6, h7, rfl, rfl⟩
      rw [List.getElem?_map] at hx
      obtain ⟨q, hqi, rfl⟩ := Option.map_eq_some_iff.mp hx
      have hi := lt_of_get hqi
      have hqX := hq q (List.mem_of_getElem? hqi)
      have hsl : (sl qs cs.sum t).length = t := sl_len (by omega)
      have hfX := z.come hg (qs := sl qs cs.sum t) fun q hq' => hq q (sl_mem hq')
      rw [hsl] at hfX
      have hsn : sl qs cs.sum (t + 1) = sl qs cs.sum t ++ [q] := sl_snoc (by rw [h1]; exact hqi)
      have hcm : 0 < t → comeQ g (sl qs cs.sum (t + 1)) = comeQ g (sl qs cs.sum t) + (g + q) := fun h0 => by
        rw [hsn, comeQ_snoc, hsl, if_pos h0]; grind
      have hone : sl qs (cs.sum + t) 1 = [q] := by
        have := sl_snoc (qs := qs) (b := cs.sum + t) (c := 0) (q := q) (by rw [Nat.add_zero, h1]; exact hqi)
        rw [this]; rfl
      have hoq : comeQ g [q] = q := by
        have := comeQ_snoc g [] q
        rwa [if_neg (by decide)] at this
      refine ⟨_, rfl, ?_⟩
      walk_at "am"
      have b1 : BQ 2000 g := z.big (by omega) hg
      have b2 : BQ 2000 q := z.big (by omega) hqX
      refine plus_ok t_.divisor t_.fraction t_.plus _ _ _ b1 b2 (by decide) ?_
      have b3 : BQ 2000 (comeQ g (sl qs cs.sum t)) := z.big (by omega) hfX
      have b4 : BQ 2000 (g + q) := z.big (k := 2) (by omega) (z.add hg hqX)
      refine plus_ok t_.divisor t_.fraction t_.plus _ _ _ b3 b4 (by decide) ?_
      have b5 : BQ 3000 (comeQ g (sl qs cs.sum t) + (g + q)) := (z.big (k := 2 * t + 1 + 2) (by omega) (z.add hfX (z.add hg hqX))).mono (by decide)
      generalize hfe : comeQ g (sl qs cs.sum t) = f at *
      walk_at "if"
      by_cases ht : 0 < t
      · rw [if_pos (by omega)]
        refine less_ok t_.less _ _ _ (n := 3000) hr b5 (by decide) ?_
        walk_at "am"
        by_cases hlt : room < f + (g + q)
        · rw [if_pos hlt]
          walk_at "if"
          rw [if_pos (by omega)]
          refine ⟨by rw [ivs_len]; omega, ?_⟩
          refine ⟨hG _ ⟨_, rfl⟩, cs ++ [t], 1, q, _, _, by simp [ivs, iv], by simp; omega, by simp; omega, by omega, ?_, h5.snoc ?_ ?_, fun z => by omega, fun z => by omega, ?_, rfl⟩
          · intro c hc
            rcases List.mem_append.mp hc with z | z
            · exact h4 c z
            · rw [List.mem_singleton.mp z]; exact ht
          · intro z; rw [hfe]; exact h6 z
          · intro _; rw [hcm ht]; exact hlt
          · rw [List.sum_append, List.sum_singleton, hone, hoq]
        · rw [if_neg hlt]
          refine ⟨hG _ ⟨_, rfl⟩, cs, t + 1, _, _, _, rfl, by omega, by omega, by omega, h4, h5, fun _ => ?_, fun z => by omega, (hcm ht).symm, rfl⟩
          rw [hcm ht]; exact hlt
      · rw [if_neg (by omega)]
        walk_at "if"
        rw [if_neg (by omega)]
        have ht0 : t = 0 := by omega
        subst ht0
        refine ⟨hG _ ⟨_, rfl⟩, cs, 1, q, _, _, rfl, by omega, by omega, by omega, h4, h5, fun z => by omega, fun z => by omega, ?_, rfl⟩
        rw [Nat.add_zero] at hone
        rw [hone, hoq]
    · rintro Γ S' ⟨cs, t, f, a, b, h0, h1, h2, h3, h4, h5, h6, h7, h8, h9⟩
      rw [List.length_map] at h1 h2
      exact ⟨cs, t, f, a, b, h0, h1, h2, h4, h5, h6, h9⟩
  rintro Γ S' ⟨cs, t, f, a, b, rfl, h1, h2, h4, h5, h6, rfl⟩
  walk_at "if"
  by_cases ht : 0 < t
  · rw [if_pos (by omega)]
    refine ⟨by rw [ivs_len]; omega, fin_keep ?_⟩
    have := h (cs ++ [t]) (by simp; omega) ?_ (h5.snoc h6 fun z => by omega)
    · simpa [ivs, iv] using this
    · intro c hc
      rcases List.mem_append.mp hc with z | z
      · exact h4 c z
      · rw [List.mem_singleton.mp z]; exact ht
  · rw [if_neg (by omega)]
    exact fin_keep (h cs (by omega) h4 h5)
theorem scounts_ok (t_ : FcT T) (k : Nat) (qs : List Rat) (hl : qs.length ≤ 100000) {v o u w : Va} {S : Sto} {P : PV} {E : PX} (hv : LV S v (qs.map Qv)) (h : P (.loc S.length) (S ++ [.lst (ivs (List.replicate qs.length 1))])) : call T (k + 1) "Stack.counts" [o, v, u, w] S P E := by
  refine call_def t_.sc rfl ?_
  unfold f_Stack_counts
  walk_at "am"
  refine hv.seq fun G hG => ⟨hG _ kept_app, ?_⟩
  refine cpL_inv (call_mono _ _) (fun i acc => acc = ivs (List.replicate i 1)) (fun acc => hG _ kept_app) rfl ?_ ?_
  · rintro i x acc hx rfl
    have hi := lt_of_get hx
    rw [List.length_map] at hi
    refine ⟨_, rfl, ?_⟩
    walk_at "am"
    refine ⟨by rw [ivs_len, List.length_replicate]; omega, ?_⟩
    show ivs (List.replicate i 1) ++ [.int 1] = ivs (List.replicate (i + 1) 1)
    rw [List.replicate_succ']
    simp [ivs, iv]
  · rintro acc rfl
    rw [List.length_map]
    exact fin_keep h
theorem rcounts_ok (t_ : FcT T) (k : Nat) (qs : List Rat) (hl : qs.length ≤ 100000) {v o u w : Va} {S : Sto} {P : PV} {E : PX} (hv : LV S v (qs.map Qv)) (h : P (.loc (S.length + 1)) (S ++ [.lst [], .lst (ivs (if qs.length < 1 then [] else [qs.length]))])) : call T (k + 1) "Flow.counts" [o, v, u, w] S P E := by
  refine call_def t_.fc rfl ?_
  unfold f_Flow_counts
  walk_at "am"
  obtain ⟨d1, d2⟩ := datsQ qs
  refine eq_nil (hv.more _) LV.here d1 (Nat.le_trans d2 (by decide)) ?_
  refine ⟨_, rfl, ?_⟩
  have e : ∀ x, (S ++ [Ob.lst []] ++ [x]) = S ++ [Ob.lst [], x] := fun x => by simp
  have e2 : (S ++ [Ob.lst []]).length = S.length + 1 := by simp
  cases qs with
  | nil =>
    refine fin_keep ?_
    rw [e, e2]; exact h
  | cons q qs =>
    walk_at "am"
    refine (hv.more _).len ?_
    rw [List.length_map]
    rw [if_neg (by simp)] at h
    refine fin_keep ?_
    rw [e, e2]; exact h
/-- lines counted, by a word -/
structure Cnt (w : Str) (g room : Rat) (qs : List Rat) (cs : List Nat) : Prop where
  sum : cs.sum = qs.length
  pos : ∀ c ∈ cs, 1 ≤ c
  st : w = "stack" → cs.length = qs.length
  ro : w = "row" → cs.length = if qs.length < 1 then qs.length else 1
  wr : w = "wrap" → Wp g room qs cs
end
end FR
end

section
set_option linter.all false
set_option maxRecDepth 100000
set_option maxHeartbeats 4000000
open PySem
namespace Hd
open AM
def f__wall : Fn := ⟨["k"], ["k"],
  (.cons (.whil (.val (.bl true)) (.cons .pass
  .nil))
  .nil)⟩
def f_cost_of : Fn := ⟨["come", "room"], ["come", "room", "spare"],
  (.cons (.set 2 (.call "minus" (.cons (.var 1) (.cons (.var 0) .nil))))
  (.cons (.ite (.val (.call "less" (.cons (.var 2) (.cons (.tup (.cons (.int 0) (.cons (.int 1) .nil))) .nil)))) (.cons (.ret (.tup (.cons (.int 0) (.cons (.int 1) .nil))))
  .nil) .nil)
  (.cons (.ret (.call "times" (.cons (.var 2) (.cons (.var 2) .nil))))
  .nil)))⟩
def f_ways_of : Fn := ⟨["widths", "gap", "room"], ["widths", "gap", "room", "many", "prices", "place", "stops", "step", "begin", "come", "stop", "price"],
  (.cons (.set 3 (.len (.var 0)))
  (.cons (.setC 4 [5] (.tup (.cons (.int 0) (.cons (.int 1) .nil))) (.name 5) (.range1 (.bin .add (.var 3) (.int 1))) .none)
  (.cons (.setC 6 [5] (.var 3) (.name 5) (.range1 (.bin .add (.var 3) (.int 1))) .none)
  (.cons (.for_ (.name 7) (.range1 (.var 3)) (.cons (.set 8 (.bin .sub (.bin .sub (.var 3) (.int 1)) (.var 7)))
  (.cons (.set 9 (.sub (.var 0) (.var 8)))
  (.cons (.for_ (.name 10) (.range2 (.bin .add (.var 8) (.int 1)) (.bin .add (.var 3) (.int 1))) (.cons (.ite (.val (.cmp .gt (.var 10) (.bin .add (.var 8) (.int 1)))) (.cons (.set 9 (.call "plus" (.cons (.var 9) (.cons (.call "plus" (.cons (.var 1) (.cons (.sub (.var 0) (.bin .sub (.var 10) (.int 1))) .nil))) .nil))))
  (.cons (.ite (.val (.call "less" (.cons (.var 2) (.cons (.var 9) .nil)))) (.cons .brk
  .nil) .nil)
  .nil)) .nil)
  (.cons (.set 11 (.tup (.cons (.int 0) (.cons (.int 1) .nil))))
  (.cons (.ite (.val (.cmp .lt (.var 10) (.var 3))) (.cons (.set 11 (.call "plus" (.cons (.call "cost_of" (.cons (.var 9) (.cons (.var 2) .nil))) (.cons (.sub (.var 4) (.var 10)) .nil))))
  .nil) .nil)
  (.cons (.ite (.or (.cons (.val (.cmp .eq (.var 10) (.bin .add (.var 8) (.int 1)))) (.one (.not (.val (.call "less" (.cons (.sub (.var 4) (.var 8)) (.cons (.var 11) .nil)))))))) (.cons (.setSub (.var 4) (.var 8) (.var 11))
  (.cons (.setSub (.var 6) (.var 8) (.var 10))
  .nil)) .nil)
  .nil)))))
  .nil))))
  (.cons (.ret (.tup (.cons (.var 4) (.cons (.var 6) .nil))))
  .nil)))))⟩
def f_prices_of : Fn := ⟨["widths", "gap", "room"], ["widths", "gap", "room"],
  (.cons (.ret (.sub (.call "ways_of" (.cons (.var 0) (.cons (.var 1) (.cons (.var 2) .nil)))) (.int 0)))
  .nil)⟩
def f_l_cell_at : Fn := ⟨["_law_script", "_law_k"], ["_law_script", "_law_k", "_law_lap", "_law_cell"],
  (.cons (.ite (.val (.cmp .eq (.len (.var 0)) (.int 0))) (.cons (.ret (.int 0))
  .nil) .nil)
  (.cons (.set 2 (.bin .fdiv (.var 1) (.len (.var 0))))
  (.cons (.set 3 (.sub (.var 0) (.bin .mod (.var 1) (.len (.var 0)))))
  (.cons (.ite (.val (.cmp .eq (.var 2) (.int 0))) (.cons (.ret (.var 3))
  .nil) .nil)
  (.cons (.ret (.bin .add (.bin .mod (.bin .mul (.var 3) (.bin .add (.bin .mul (.int 2) (.var 2)) (.int 1))) (.int 1000003)) (.bin .mul (.int 31) (.var 2))))
  .nil)))))⟩
def f_l_low : Fn := ⟨["_law_top", "_law_bottom"], ["_law_top", "_law_bottom", "_law_one", "_law_other", "_law_rest"],
  (.cons (.set 2 (.var 0))
  (.cons (.set 3 (.var 1))
  (.cons (.whil (.val (.cmp .ne (.var 3) (.int 0))) (.cons (.set 4 (.bin .mod (.var 2) (.var 3)))
  (.cons (.set 2 (.var 3))
  (.cons (.set 3 (.var 4))
  .nil))))
  (.cons (.ret (.tup (.cons (.bin .fdiv (.var 0) (.var 2)) (.cons (.bin .fdiv (.var 1) (.var 2)) .nil))))
  .nil))))⟩
def f_l_sum : Fn := ⟨["_law_one", "_law_other"], ["_law_one", "_law_other"],
  (.cons (.ret (.call "_law_low" (.cons (.bin .add (.bin .mul (.sub (.var 0) (.int 0)) (.sub (.var 1) (.int 1))) (.bin .mul (.sub (.var 1) (.int 0)) (.sub (.var 0) (.int 1)))) (.cons (.bin .mul (.sub (.var 0) (.int 1)) (.sub (.var 1) (.int 1))) .nil))))
  .nil)⟩
def f_l_less : Fn := ⟨["_law_one", "_law_other"], ["_law_one", "_law_other"],
  (.cons (.ret (.cmp .lt (.bin .mul (.sub (.var 0) (.int 0)) (.sub (.var 1) (.int 1))) (.bin .mul (.sub (.var 1) (.int 0)) (.sub (.var 0) (.int 1)))))
  .nil)⟩
def f_l_width_by : Fn := ⟨["_law_cell", "_law_way", "_law_bottom"], ["_law_cell", "_law_way", "_law_bottom"],
  (.cons (.ite (.val (.cmp .eq (.var 1) (.int 0))) (.cons (.ret (.tup (.cons (.bin .mod (.var 0) (.int 9)) (.cons (.int 1) .nil))))
  .nil) .nil)
  (.cons (.ite (.val (.cmp .eq (.var 1) (.int 1))) (.cons (.ret (.call "_law_low" (.cons (.bin .mod (.var 0) (.int 30)) (.cons (.bin .add (.int 1) (.bin .mod (.bin .fdiv (.var 0) (.int 30)) (.int 4))) .nil))))
  .nil) .nil)
  (.cons (.ret (.call "_law_low" (.cons (.bin .mod (.var 0) (.bin .pow (.int 10) (.int 30))) (.cons (.var 2) .nil))))
  .nil)))⟩
def f_l_cost : Fn := ⟨["_law_come", "_law_room"], ["_law_come", "_law_room", "_law_spare"],
  (.cons (.ite (.val (.call "_law_less" (.cons (.var 1) (.cons (.var 0) .nil)))) (.cons (.ret (.tup (.cons (.int 0) (.cons (.int 1) .nil))))
  .nil) .nil)
  (.cons (.set 2 (.call "_law_sum" (.cons (.var 1) (.cons (.tup (.cons (.neg (.sub (.var 0) (.int 0))) (.cons (.sub (.var 0) (.int 1)) .nil))) .nil))))
  (.cons (.ret (.call "_law_low" (.cons (.bin .mul (.sub (.var 2) (.int 0)) (.sub (.var 2) (.int 0))) (.cons (.bin .mul (.sub (.var 2) (.int 1)) (.sub (.var 2) (.int 1))) .nil))))
  .nil)))⟩
def f_l_fraction : Fn := ⟨["_law_found"], ["_law_found", "_law_part"],
  (.cons (.ite (.or (.cons (.not (.val (.isi (.var 0) .tuple))) (.one (.val (.cmp .ne (.len (.var 0)) (.int 2)))))) (.cons (.ret (.bl false))
  .nil) .nil)
  (.cons (.for_ (.name 1) (.seq (.var 0)) (.cons (.ite (.or (.cons (.not (.val (.isi (.var 1) .int))) (.one (.val (.isi (.var 1) .bool))))) (.cons (.ret (.bl false))
  .nil) .nil)
  .nil))
  (.cons (.ret (.tst (.and (.cons (.val (.cmp .ge (.sub (.var 0) (.int 1)) (.int 1))) (.one (.val (.cmp .eq (.call "_law_low" (.cons (.sub (.var 0) (.int 0)) (.cons (.sub (.var 0) (.int 1)) .nil))) (.var 0))))))))
  .nil)))⟩
def f_l_farthest : Fn := ⟨["_law_prices", "_law_begin", "_law_widths", "_law_gap", "_law_room"], ["_law_prices", "_law_begin", "_law_widths", "_law_gap", "_law_room", "_law_far", "_law_many", "_law_come", "_law_stop", "_law_due"],
  (.cons (.set 5 (.neg (.int 1)))
  (.cons (.set 6 (.len (.var 2)))
  (.cons (.set 7 (.sub (.var 2) (.var 1)))
  (.cons (.for_ (.name 8) (.range2 (.bin .add (.var 1) (.int 1)) (.bin .add (.var 6) (.int 1))) (.cons (.ite (.val (.cmp .gt (.var 8) (.bin .add (.var 1) (.int 1)))) (.cons (.set 7 (.call "_law_sum" (.cons (.var 7) (.cons (.call "_law_sum" (.cons (.var 3) (.cons (.sub (.var 2) (.bin .sub (.var 8) (.int 1))) .nil))) .nil))))
  (.cons (.ite (.val (.call "_law_less" (.cons (.var 4) (.cons (.var 7) .nil)))) (.cons (.ret (.var 5))
  .nil) .nil)
  .nil)) .nil)
  (.cons (.set 9 (.tup (.cons (.int 0) (.cons (.int 1) .nil))))
  (.cons (.ite (.val (.cmp .lt (.var 8) (.var 6))) (.cons (.set 9 (.call "_law_sum" (.cons (.call "_law_cost" (.cons (.var 7) (.cons (.var 4) .nil))) (.cons (.sub (.var 0) (.var 8)) .nil))))
  .nil) .nil)
  (.cons (.ite (.val (.call "_law_less" (.cons (.var 9) (.cons (.sub (.var 0) (.var 1)) .nil)))) (.cons (.ret (.neg (.int 1)))
  .nil) .nil)
  (.cons (.ite (.val (.cmp .eq (.var 9) (.sub (.var 0) (.var 1)))) (.cons (.set 5 (.var 8))
  .nil) .nil)
  .nil))))))
  (.cons (.ret (.var 5))
  .nil)))))⟩
def f_l_room_by : Fn := ⟨["_law_cell", "_law_widths", "_law_gap", "_law_way", "_law_bottom"], ["_law_cell", "_law_widths", "_law_gap", "_law_way", "_law_bottom", "_law_begin", "_law_come", "_law_width"],
  (.cons (.ite (.val (.cmp .eq (.bin .mod (.var 0) (.int 9)) (.int 1))) (.cons (.ret (.tup (.cons (.bin .sub (.neg (.int 1)) (.bin .mod (.bin .fdiv (.var 0) (.int 9)) (.bin .pow (.int 10) (.int 9)))) (.cons (.int 1) .nil))))
  .nil) .nil)
  (.cons (.ite (.val (.cmp .lt (.bin .mod (.var 0) (.int 9)) (.int 4))) (.cons (.ret (.call "_law_width_by" (.cons (.bin .fdiv (.var 0) (.int 9)) (.cons (.var 3) (.cons (.var 4) .nil)))))
  .nil) .nil)
  (.cons (.set 5 (.bin .mod (.bin .fdiv (.var 0) (.int 9)) (.bin .add (.len (.var 1)) (.int 1))))
  (.cons (.set 6 (.tup (.cons (.int 0) (.cons (.int 1) .nil))))
  (.cons (.for_ (.name 7) (.seq (.slice (.var 1) (.some (.var 5)) (.some (.bin .add (.bin .add (.var 5) (.int 2)) (.bin .mod (.var 0) (.int 3)))))) (.cons (.set 6 (.call "_law_sum" (.cons (.var 6) (.cons (.call "_law_sum" (.cons (.var 2) (.cons (.var 7) .nil))) .nil))))
  .nil))
  (.cons (.ret (.call "_law_sum" (.cons (.var 6) (.cons (.tup (.cons (.neg (.sub (.var 2) (.int 0))) (.cons (.sub (.var 2) (.int 1)) .nil))) .nil))))
  .nil))))))⟩
def f_l_widths_by : Fn := ⟨["_law_script", "_law_first", "_law_way", "_law_bottom"], ["_law_script", "_law_first", "_law_way", "_law_bottom", "_law_many", "_law_widths", "_law_k"],
  (.cons (.set 4 (.bin .mod (.var 1) (.int 8)))
  (.cons (.ite (.val (.cmp .eq (.bin .mod (.bin .fdiv (.var 1) (.int 72)) (.int 8)) (.int 5))) (.cons (.set 4 (.bin .add (.int 8) (.bin .mod (.bin .fdiv (.var 1) (.int 576)) (.int 9))))
  .nil) .nil)
  (.cons (.ite (.val (.cmp .eq (.bin .mod (.bin .fdiv (.var 1) (.int 72)) (.int 24)) (.int 13))) (.cons (.set 4 (.bin .add (.int 30) (.bin .mod (.bin .fdiv (.var 1) (.int 1728)) (.int 31))))
  .nil) .nil)
  (.cons (.setC 5 [6] (.call "_law_width_by" (.cons (.call "_law_cell_at" (.cons (.var 0) (.cons (.bin .add (.int 4) (.var 6)) .nil))) (.cons (.var 2) (.cons (.var 3) .nil)))) (.name 6) (.range1 (.var 4)) .none)
  (.cons (.ite (.val (.cmp .eq (.bin .mod (.bin .fdiv (.var 1) (.int 24)) (.int 3)) (.int 1))) (.cons (.ret (.bin .mul (.slice (.var 5) .none (.some (.int 1))) (.var 4)))
  .nil) .nil)
  (.cons (.ite (.and (.cons (.val (.cmp .eq (.bin .mod (.bin .fdiv (.var 1) (.int 24)) (.int 3)) (.int 2))) (.one (.val (.cmp .lt (.var 4) (.int 5)))))) (.cons (.ret (.bin .add (.bin .add (.var 5) (.lrev (.var 5))) (.slice (.var 5) .none (.some (.int 1)))))
  .nil) .nil)
  (.cons (.ret (.var 5))
  .nil)))))))⟩
def f_l_told : Fn := ⟨["_law_widths", "_law_gap", "_law_room"], ["_law_widths", "_law_gap", "_law_room", "_law_handed", "_law_prices", "_law_price"],
  (.cons (.set 3 (.blt .list (.cons (.var 0) .nil)))
  (.cons (.set 4 (.call "prices_of" (.cons (.var 3) (.cons (.var 1) (.cons (.var 2) .nil)))))
  (.cons (.ite (.or (.cons (.val (.cmp .ne (.var 3) (.var 0))) (.cons (.not (.val (.isi (.var 4) .list))) (.one (.val (.cmp .ne (.len (.var 4)) (.bin .add (.len (.var 0)) (.int 1)))))))) (.cons (.ret (.lst .nil))
  .nil) .nil)
  (.cons (.for_ (.name 5) (.seq (.var 4)) (.cons (.ite (.not (.val (.call "_law_fraction" (.cons (.var 5) .nil)))) (.cons (.ret (.lst .nil))
  .nil) .nil)
  .nil))
  (.cons (.ret (.var 4))
  .nil)))))⟩
def f_law : Fn := ⟨["_law_script"], ["_law_script", "_law_first", "_law_way", "_law_bottom", "_law_widths", "_law_many", "_law_gap", "_law_room", "_law_prices", "_law_far", "_law_begin", "_law_flow", "_law_handed", "_law_found", "_law_due", "_law_count"],
  (.cons (.set 1 (.call "_law_cell_at" (.cons (.var 0) (.cons (.int 0) .nil))))
  (.cons (.set 2 (.bin .mod (.bin .fdiv (.var 1) (.int 8)) (.int 3)))
  (.cons (.ite (.val (.cmp .eq (.bin .mod (.bin .fdiv (.var 1) (.int 72)) (.int 8)) (.int 5))) (.cons (.set 2 (.int 0))
  .nil) .nil)
  (.cons (.set 3 (.bin .add (.int 1) (.bin .mod (.call "_law_cell_at" (.cons (.var 0) (.cons (.int 3) .nil))) (.bin .pow (.int 10) (.int 9)))))
  (.cons (.set 4 (.call "_law_widths_by" (.cons (.var 0) (.cons (.var 1) (.cons (.var 2) (.cons (.var 3) .nil))))))
  (.cons (.set 5 (.len (.var 4)))
  (.cons (.set 6 (.tup (.cons (.int 0) (.cons (.int 1) .nil))))
  (.cons (.ite (.val (.cmp .eq (.bin .mod (.call "_law_cell_at" (.cons (.var 0) (.cons (.int 1) .nil))) (.int 2)) (.int 1))) (.cons (.set 6 (.call "_law_width_by" (.cons (.bin .fdiv (.call "_law_cell_at" (.cons (.var 0) (.cons (.int 1) .nil))) (.int 2)) (.cons (.var 2) (.cons (.var 3) .nil)))))
  .nil) .nil)
  (.cons (.set 7 (.call "_law_room_by" (.cons (.call "_law_cell_at" (.cons (.var 0) (.cons (.int 2) .nil))) (.cons (.var 4) (.cons (.var 6) (.cons (.var 2) (.cons (.var 3) .nil)))))))
  (.cons (.drop (.mth .append (.call "_law_told" (.cons (.slice (.var 4) .none (.some (.bin .fdiv (.var 5) (.int 2)))) (.cons (.var 6) (.cons (.var 7) .nil)))) (.cons (.tup (.cons (.int 0) (.cons (.int 1) .nil))) .nil)))
  (.cons (.set 8 (.call "_law_told" (.cons (.var 4) (.cons (.var 6) (.cons (.var 7) .nil)))))
  (.cons (.ite (.or (.cons (.val (.cmp .eq (.var 8) (.lst .nil))) (.one (.val (.cmp .ne (.sub (.var 8) (.var 5)) (.tup (.cons (.int 0) (.cons (.int 1) .nil)))))))) (.cons (.ret (.bl false))
  .nil) .nil)
  (.cons (.setC 9 [10] (.call "_law_farthest" (.cons (.var 8) (.cons (.var 10) (.cons (.var 4) (.cons (.var 6) (.cons (.var 7) .nil)))))) (.name 10) (.range1 (.var 5)) .none)
  (.cons (.set 11 (.call "flow_of" (.cons (.str "fair") .nil)))
  (.cons (.ite (.or (.cons (.val (.cmp .isin (.neg (.int 1)) (.var 9))) (.one (.not (.val (.isc (.var 11) "Flow")))))) (.cons (.ret (.bl false))
  .nil) .nil)
  (.cons (.set 12 (.blt .list (.cons (.var 4) .nil)))
  (.cons (.drop (.mth .append (.mcall (.var 11) "counts" (.cons (.blt .list (.cons (.slice (.var 4) (.some (.int 1)) .none) .nil)) (.cons (.var 6) (.cons (.var 7) .nil)))) (.cons (.int 1) .nil)))
  (.cons (.set 13 (.mcall (.var 11) "counts" (.cons (.var 12) (.cons (.var 6) (.cons (.var 7) .nil)))))
  (.cons (.ite (.or (.cons (.not (.val (.isi (.var 13) .list))) (.one (.val (.cmp .ne (.var 12) (.var 4)))))) (.cons (.ret (.bl false))
  .nil) .nil)
  (.cons (.set 14 (.lst .nil))
  (.cons (.set 10 (.int 0))
  (.cons (.whil (.val (.cmp .lt (.var 10) (.var 5))) (.cons (.drop (.mth .append (.var 14) (.cons (.bin .sub (.sub (.var 9) (.var 10)) (.var 10)) .nil)))
  (.cons (.set 10 (.sub (.var 9) (.var 10)))
  .nil)))
  (.cons (.for_ (.name 15) (.seq (.var 13)) (.cons (.ite (.or (.cons (.not (.val (.isi (.var 15) .int))) (.one (.val (.isi (.var 15) .bool))))) (.cons (.ret (.bl false))
  .nil) .nil)
  .nil))
  (.cons (.ret (.cmp .eq (.var 13) (.var 14)))
  .nil))))))))))))))))))))))))⟩
def f_Flow_counts : Fn := ⟨["self", "widths", "gap", "room"], ["self", "widths", "gap", "room"],
  (.cons (.ite (.val (.cmp .eq (.var 1) (.lst .nil))) (.cons (.ret (.lst .nil))
  .nil) .nil)
  (.cons (.ret (.lst (.cons (.len (.var 1)) .nil)))
  .nil))⟩
def f_Flow_breadth : Fn := ⟨["self", "widths", "gap"], ["self", "widths", "gap"],
  (.cons (.drop (.call "_wall" (.cons (.int 0) .nil)))
  .nil)⟩
def f_Stack_counts : Fn := ⟨["self", "widths", "gap", "room"], ["self", "widths", "gap", "room", "width"],
  (.cons (.ret (.comp [4] (.int 1) (.name 4) (.seq (.var 1)) .none))
  .nil)⟩
def f_Stack_breadth : Fn := ⟨["self", "widths", "gap"], ["self", "widths", "gap"],
  (.cons (.drop (.call "_wall" (.cons (.int 1) .nil)))
  .nil)⟩
def f_Wrap_counts : Fn := ⟨["self", "widths", "gap", "room"], ["self", "widths", "gap", "room", "found", "taken", "filled", "width", "longer"],
  (.cons (.set 4 (.lst .nil))
  (.cons (.set 5 (.int 0))
  (.cons (.set 6 (.tup (.cons (.int 0) (.cons (.int 1) .nil))))
  (.cons (.for_ (.name 7) (.seq (.var 1)) (.cons (.set 8 (.call "plus" (.cons (.var 6) (.cons (.call "plus" (.cons (.var 2) (.cons (.var 7) .nil))) .nil))))
  (.cons (.ite (.and (.cons (.val (.cmp .gt (.var 5) (.int 0))) (.one (.not (.val (.call "less" (.cons (.var 3) (.cons (.var 8) .nil)))))))) (.cons (.set 6 (.var 8))
  (.cons (.aug 5 .add (.int 1))
  (.cons .cont
  .nil))) .nil)
  (.cons (.ite (.val (.cmp .gt (.var 5) (.int 0))) (.cons (.drop (.mth .append (.var 4) (.cons (.var 5) .nil)))
  .nil) .nil)
  (.cons (.set 6 (.var 7))
  (.cons (.set 5 (.int 1))
  .nil))))))
  (.cons (.ite (.val (.cmp .gt (.var 5) (.int 0))) (.cons (.drop (.mth .append (.var 4) (.cons (.var 5) .nil)))
  .nil) .nil)
  (.cons (.ret (.var 4))
  .nil))))))⟩
def f_Fair_counts : Fn := ⟨["self", "widths", "gap", "room"], ["self", "widths", "gap", "room", "stops", "found", "begin"],
  (.cons (.set 4 (.sub (.call "ways_of" (.cons (.var 1) (.cons (.var 2) (.cons (.var 3) .nil)))) (.int 1)))
  (.cons (.set 5 (.lst .nil))
  (.cons (.set 6 (.int 0))
  (.cons (.whil (.val (.cmp .lt (.var 6) (.len (.var 1)))) (.cons (.drop (.mth .append (.var 5) (.cons (.bin .sub (.sub (.var 4) (.var 6)) (.var 6)) .nil)))
  (.cons (.set 6 (.sub (.var 4) (.var 6)))
  .nil)))
  (.cons (.ret (.var 5))
  .nil)))))⟩
end Hd
open Hd (f_law)
namespace Hd
open PySem AM
def T : Tab := ⟨[("_wall", f__wall), ("divisor", f_divisor), ("fraction", f_fraction), ("plus", f_plus), ("minus", f_minus), ("times", f_times), ("less", f_less), ("cost_of", f_cost_of), ("ways_of", f_ways_of), ("prices_of", f_prices_of), ("flow_of", f_flow_of), ("_law_cell_at", f_l_cell_at), ("_law_low", f_l_low), ("_law_sum", f_l_sum), ("_law_less", f_l_less), ("_law_width_by", f_l_width_by), ("_law_cost", f_l_cost), ("_law_fraction", f_l_fraction), ("_law_farthest", f_l_farthest), ("_law_room_by", f_l_room_by), ("_law_widths_by", f_l_widths_by), ("_law_told", f_l_told), ("law", f_law), ("Flow.counts", f_Flow_counts), ("Flow.breadth", f_Flow_breadth), ("Stack.counts", f_Stack_counts), ("Stack.breadth", f_Stack_breadth), ("Wrap.counts", f_Wrap_counts), ("Fair.counts", f_Fair_counts)], [("Flow", "counts", "Flow.counts"), ("Flow", "breadth", "Flow.breadth"), ("Stack", "counts", "Stack.counts"), ("Stack", "breadth", "Stack.breadth"), ("Wrap", "counts", "Wrap.counts"), ("Wrap", "breadth", "Flow.breadth"), ("Fair", "counts", "Fair.counts"), ("Fair", "breadth", "Flow.breadth")], [], [("Flow", none), ("Stack", none), ("Wrap", none), ("Fair", none)], [], [("Flow", "Flow", true), ("Stack", "Flow", true), ("Wrap", "Flow", true), ("Fair", "Flow", true)], []⟩
end Hd
namespace LawProof
open PySem AM FR
local macro_rules | `(tactic| walk_at "am") => `(tactic| try simp only [st_set0, st_setS, iteTrue, iteFalse, iteDec, iteNDec, exSome, exBl, W_var, W_int, W_bl, W_non, W_str, W_tup, W_lst, W_bin, W_neg, W_cmp, W_isN, W_notN, W_lrev, wIsb, wNisb, W_chain, W_tst, W_ite, W_call, W_len, W_abs, W_isi, W_sub, WT_val, WT_not, WT_and, WT_or, WA_one, WA_cons, WO_one, WO_cons, WB_val, WB_not, WB_and, WB_or, WBA_one, WBA_cons, WBO_one, WBO_cons, WL_nil, WL_cons, WS_set, WS_ret, WS_retN, WS_pass, WS_brk, WS_cont, WS_drop, WS_ite, WS_raise, WSs_nil, Ss_set, Ss_ret, Ss_retN, Ss_pass, Ss_brk, Ss_cont, Ss_drop, Ss_raise, Ss_ite_ret, Ss_ite_retN, Ss_ite_raise, Ss_ite_cont, Ss_ite_brk, Ss_ite_last, gt_0, gt_S, wAdd_int, wSub_int, wMul_int, wMul_rep, wDiv_int, wMod_int, wPow_int, wAdd_str, wNeg_int, wAbs_int, wLt_int, wLe_int, wGt_int, wGe_int, wEq_int, wNe_int, wEq_bl, wNe_bl, wEq_str, wNe_str, wLen_tup, wLen_lst, tru_bl, tru_int, ty_int_int, ty_int_bool, ty_int_str, ty_int_tuple, ty_int_list, ty_int_dict, ty_bl_int, ty_bl_bool, ty_bl_str, ty_bl_tuple, ty_bl_list, ty_bl_dict, ty_str_int, ty_str_bool, ty_str_str, ty_str_tuple, ty_str_list, ty_str_dict, ty_tup_int, ty_tup_bool, ty_tup_str, ty_tup_tuple, ty_tup_list, ty_tup_dict, ty_lst_int, ty_lst_bool, ty_lst_str, ty_lst_tuple, ty_lst_list, ty_lst_dict, ty_dct_int, ty_dct_bool, ty_dct_str, ty_dct_tuple, ty_dct_list, ty_dct_dict, ty_non, sub_tup0, sub_tup1, sub_tup2, sub_tup3, sub_tup4, sub_tup5, sub_lst0, sub_lst1, sub_lst2, sub_lst3, sub_lst4, sub_lst5, startA, List.map_cons, List.map_nil, List.length_cons, List.length_nil, List.replicate, List.cons_append, List.nil_append, true_and, and_true, ne_eq, isNon, Bool.not_true, Bool.not_false, Bool.true_or, Bool.or_true, Bool.false_or, reduceIte, Nat.reduceAdd, Nat.zero_add, Int.cast_ofNat_Int, Int.reduceEq, Int.reduceLT, Int.reduceLE, Nat.reduceLeDiff, decide_true, decide_false, not_true_eq_false, not_false_eq_true, Nat.reduceSub, Int.reduceToNat, W_slice, W_blt, W_mth, W_comp, WOe_none, WOe_some, WI_seq, WI_range1, WI_range2, WI_enum, WI_zip, WI_rev, WT0_none, WT0_some, Ss_asg, Ss_setSub, Ss_aug, WS_asg, WS_aug, WS_for, WS_setC, bT_name, bT_tup, bT_lst, bTs_nil, bTs_name, seq_lst, seq_tup, seq_scr, seq_str, seq_loc, lst_lst, lst_scr, lst_loc, exInt, exLoc, exLst, exLst1, exLV_lst, exLV_loc, mOk_app, mOk_pop, mOk_ext, mOk_ins, mOk_ind, mOk_join, mOk_indl, m_append, m_pop, m_extend, m_insert, m_join, b_listL, b_listT, b_listS, b_listK, b_tupL, b_tupT, b_tupK, b_max2, b_min2, b_ord, b_str, sl_lst, sl_loc, sl_scr, sl_tupE, sl_strE, cat_lst, cat_loc, cat_tup, wLen_scr, wLen_loc, wLen_str, wSub_scr, wSub_loc, wSub_str, aug_add, aug_sub, tru_lst, tru_tup, tru_non, ty_scr_list, sg_p0, sg_pl, ss_p0, ss_pl, ob_set0, ob_set1, ob_set2, ob_set3, ob_g0, ob_g1, ob_g2, ob_g3, List.append_assoc, List.length_append, List.nil_append, Nat.add_zero, Nat.add_assoc, Int.reduceNeg, wipeA, orc_run, orc_glob, orc_init, orc_isa, orc_gdct, W_isc, b_intB, W_glob, W_gget, W_fld, W_mcall, W_make, W_make0, W_dsp, Ss_setFld, subO_l, subO_d, lenO_l, lenO_d, listO_l, listO_d, putO_l, keyV_int, keyV_str, wIn_str, wNotin_str, mapSome, at_0, at_1, at_2, at_3, at_4, at_5, ix_1_0, ix_2_0, ix_2_1, ix_3_0, ix_3_1, ix_3_2, ix_4_0, ix_4_1, ix_4_2, ix_4_3, va_s0, va_s1, va_s2, va_s3])
local macro_rules | `(tactic| walk_at "if") => `(tactic| (try simp only []); rw [Ss_ite]; simp only [st_set0, st_setS, iteTrue, iteFalse, iteDec, iteNDec, exSome, exBl, W_var, W_int, W_bl, W_non, W_str, W_tup, W_lst, W_bin, W_neg, W_cmp, W_isN, W_notN, W_lrev, wIsb, wNisb, W_chain, W_tst, W_ite, W_call, W_len, W_abs, W_isi, W_sub, WT_val, WT_not, WT_and, WT_or, WA_one, WA_cons, WO_one, WO_cons, WB_val, WB_not, WB_and, WB_or, WBA_one, WBA_cons, WBO_one, WBO_cons, WL_nil, WL_cons, WS_set, WS_ret, WS_retN, WS_pass, WS_brk, WS_cont, WS_drop, WS_ite, WS_raise, WSs_nil, Ss_set, Ss_ret, Ss_retN, Ss_pass, Ss_brk, Ss_cont, Ss_drop, Ss_raise, Ss_ite_ret, Ss_ite_retN, Ss_ite_raise, Ss_ite_cont, Ss_ite_brk, Ss_ite_last, gt_0, gt_S, wAdd_int, wSub_int, wMul_int, wMul_rep, wDiv_int, wMod_int, wPow_int, wAdd_str, wNeg_int, wAbs_int, wLt_int, wLe_int, wGt_int, wGe_int, wEq_int, wNe_int, wEq_bl, wNe_bl, wEq_str, wNe_str, wLen_tup, wLen_lst, tru_bl, tru_int, ty_int_int, ty_int_bool, ty_int_str, ty_int_tuple, ty_int_list, ty_int_dict, ty_bl_int, ty_bl_bool, ty_bl_str, ty_bl_tuple, ty_bl_list, ty_bl_dict, ty_str_int, ty_str_bool, ty_str_str, ty_str_tuple, ty_str_list, ty_str_dict, ty_tup_int, ty_tup_bool, ty_tup_str, ty_tup_tuple, ty_tup_list, ty_tup_dict, ty_lst_int, ty_lst_bool, ty_lst_str, ty_lst_tuple, ty_lst_list, ty_lst_dict, ty_dct_int, ty_dct_bool, ty_dct_str, ty_dct_tuple, ty_dct_list, ty_dct_dict, ty_non, sub_tup0, sub_tup1, sub_tup2, sub_tup3, sub_tup4, sub_tup5, sub_lst0, sub_lst1, sub_lst2, sub_lst3, sub_lst4, sub_lst5, startA, List.map_cons, List.map_nil, List.length_cons, List.length_nil, List.replicate, List.cons_append, List.nil_append, true_and, and_true, ne_eq, isNon, Bool.not_true, Bool.not_false, Bool.true_or, Bool.or_true, Bool.false_or, reduceIte, Nat.reduceAdd, Nat.zero_add, Int.cast_ofNat_Int, Int.reduceEq, Int.reduceLT, Int.reduceLE, Nat.reduceLeDiff, decide_true, decide_false, not_true_eq_false, not_false_eq_true, Nat.reduceSub, Int.reduceToNat, W_slice, W_blt, W_mth, W_comp, WOe_none, WOe_some, WI_seq, WI_range1, WI_range2, WI_enum, WI_zip, WI_rev, WT0_none, WT0_some, Ss_asg, Ss_setSub, Ss_aug, WS_asg, WS_aug, WS_for, WS_setC, bT_name, bT_tup, bT_lst, bTs_nil, bTs_name, seq_lst, seq_tup, seq_scr, seq_str, seq_loc, lst_lst, lst_scr, lst_loc, exInt, exLoc, exLst, exLst1, exLV_lst, exLV_loc, mOk_app, mOk_pop, mOk_ext, mOk_ins, mOk_ind, mOk_join, mOk_indl, m_append, m_pop, m_extend, m_insert, m_join, b_listL, b_listT, b_listS, b_listK, b_tupL, b_tupT, b_tupK, b_max2, b_min2, b_ord, b_str, sl_lst, sl_loc, sl_scr, sl_tupE, sl_strE, cat_lst, cat_loc, cat_tup, wLen_scr, wLen_loc, wLen_str, wSub_scr, wSub_loc, wSub_str, aug_add, aug_sub, tru_lst, tru_tup, tru_non, ty_scr_list, sg_p0, sg_pl, ss_p0, ss_pl, ob_set0, ob_set1, ob_set2, ob_set3, ob_g0, ob_g1, ob_g2, ob_g3, List.append_assoc, List.length_append, List.nil_append, Nat.add_zero, Nat.add_assoc, Int.reduceNeg, wipeA, orc_run, orc_glob, orc_init, orc_isa, orc_gdct, W_isc, b_intB, W_glob, W_gget, W_fld, W_mcall, W_make, W_make0, W_dsp, Ss_setFld, subO_l, subO_d, lenO_l, lenO_d, listO_l, listO_d, putO_l, keyV_int, keyV_str, wIn_str, wNotin_str, mapSome, at_0, at_1, at_2, at_3, at_4, at_5, ix_1_0, ix_2_0, ix_2_1, ix_3_0, ix_3_1, ix_3_2, ix_4_0, ix_4_1, ix_4_2, ix_4_3, va_s0, va_s1, va_s2, va_s3])
theorem lq : LqT Hd.T := ⟨rfl, rfl, rfl, rfl⟩
theorem fl : FlT Hd.T := { divisor := rfl, fraction := rfl, plus := rfl, less := rfl, flow_of := rfl, i1 := rfl, i2 := rfl, i3 := rfl, i4 := rfl }
theorem d (j : Int) (h : 0 < j) (h2 : j.natAbs < 2 ^ 200) : CDivA j := small (by omega) h2
theorem hb_ {i : Int} {n : Nat} (h : i.natAbs < 2 ^ n) : B n i := h
theorem e0 : (Va.tup [.int 0, .int 1]) = Qv 0 := rfl
/-! ### the plain law -/
/-- what the things from b up to t come to in one line -/
def cQ (g : Rat) (qs : List Rat) (b t : Nat) : Rat := comeQ g (sl qs b (t - b))
def costR (room c : Rat) : Rat := if room < c then 0 else (room - c) * (room - c)
def dueR (g room : Rat) (qs : List Rat) (pr : Nat → Rat) (b t : Nat) : Rat := if t < qs.length then costR room (cQ g qs b t) + pr t else 0
structure Best (D : Nat → Rat) (b e : Nat) (p : Rat) (s : Nat) : Prop where
  lo : b < s
  hi : s ≤ e
  at_ : D s = p
  least : ∀ t, b < t → t ≤ e → ¬ D t < p
  last : ∀ t, s < t → t ≤ e → p < D t
theorem Best.one {D : Nat → Rat} {b : Nat} : Best D b (b + 1) (D (b + 1)) (b + 1) where
  lo := by omega
  hi := Nat.le_refl _
  at_ := rfl
  least := fun t h1 h2 => by
    obtain rfl : t = b + 1 := by omega
    exact Rat.lt_irrefl
  last := fun t h1 h2 => by omega
theorem Best.more {D : Nat → Rat} {b e : Nat} {p : Rat} {s : Nat} (h : Best D b e p s) (hl : p < D (e + 1)) : Best D b (e + 1) p s where
  lo := h.lo
  hi := Nat.le_succ_of_le h.hi
  at_ := h.at_
  least := fun t h1 h2 => by
    by_cases e1 : t ≤ e
    · exact h.least t h1 e1
    · obtain rfl : t = e + 1 := by omega
      grind
  last := fun t h1 h2 => by
    by_cases e1 : t ≤ e
    · exact h.last t h1 e1
    · obtain rfl : t = e + 1 := by omega
      exact hl
theorem Best.turn {D : Nat → Rat} {b e : Nat} {p : Rat} {s : Nat} (h : Best D b e p s) (hb : b ≤ e) (hl : ¬ p < D (e + 1)) : Best D b (e + 1) (D (e + 1)) (e + 1) where
  lo := by omega
  hi := Nat.le_refl _
  at_ := rfl
  least := fun t h1 h2 => by
    by_cases e1 : t ≤ e
    · have := h.least t h1 e1
      grind
    · obtain rfl : t = e + 1 := by omega
      exact Rat.lt_irrefl
  last := fun t h1 h2 => by omega
theorem Best.congr {D D' : Nat → Rat} {b e : Nat} {p : Rat} {s : Nat} (h : Best D b e p s) (he : ∀ t, b < t → D t = D' t) : Best D' b e p s where
  lo := h.lo
  hi := h.hi
  at_ := by rw [← he s h.lo]; exact h.at_
  least := fun t h1 h2 => by rw [← he t h1]; exact h.least t h1 h2
  last := fun t h1 h2 => by rw [← he t (Nat.lt_trans h.lo h1)]; exact h.last t h1 h2
/-- the lines from b on that may stand: up to e -/
structure Upto (g room : Rat) (qs : List Rat) (b e : Nat) : Prop where
  lo : b < e
  hi : e ≤ qs.length
  fit : ∀ t, b + 1 < t → t ≤ e → ¬ room < cQ g qs b t
  far : e = qs.length ∨ room < cQ g qs b (e + 1)
def Way (g room : Rat) (qs : List Rat) (pr : Nat → Rat) (b s : Nat) : Prop := ∃ e, Upto g room qs b e ∧ Best (dueR g room qs pr b) b e (pr b) s
/-- the least from a place on, and where the first line ends, for the last k places -/
structure Tbl (g room : Rat) (qs : List Rat) (k : Nat) (pr : Nat → Rat) (ss : Nat → Nat) : Prop where
  way : ∀ b, qs.length ≤ b + k → b < qs.length → Way g room qs pr b (ss b)
  nil : pr qs.length = 0
def setN {α : Type} (f : Nat → α) (b : Nat) (v : α) : Nat → α := fun j => if j = b then v else f j
theorem setN_setN {α : Type} {f : Nat → α} {b : Nat} {u v : α} : setN (setN f b u) b v = setN f b v := by
  funext j
  unfold setN
  split <;> rfl
theorem setN_at {α : Type} {f : Nat → α} {b : Nat} {u : α} : setN f b u b = u := by unfold setN; rw [if_pos rfl]
theorem dueR_set {g room : Rat} {qs : List Rat} {pr : Nat → Rat} {b b' t : Nat} {p : Rat} (h : b < t) : dueR g room qs (setN pr b p) b' t = dueR g room qs pr b' t := by
  unfold dueR setN
  rw [if_neg (show ¬ t = b by omega)]
theorem Tbl.set {g room : Rat} {qs : List Rat} {k : Nat} {pr : Nat → Rat} {ss : Nat → Nat} (h : Tbl g room qs k pr ss) {b e : Nat} {p : Rat} {s : Nat} (hb : b + (k + 1) = qs.length) (hu : Upto g room qs b e) (hw : Best (dueR g room qs pr b) b e p s) : Tbl g room qs (k + 1) (setN pr b p) (setN ss b s) where
  way := fun b' h1 h2 => by
    by_cases eb : b' = b
    · subst eb
      refine ⟨e, hu, ?_⟩
      have e1 : setN pr b' p b' = p := by unfold setN; rw [if_pos rfl]
      have e2 : setN ss b' s b' = s := by unfold setN; rw [if_pos rfl]
      rw [e1, e2]
      exact hw.congr fun t ht => (dueR_set ht).symm
    · obtain ⟨e', u, w⟩ := h.way b' (by omega) h2
      refine ⟨e', u, ?_⟩
      have e1 : setN pr b p b' = pr b' := by unfold setN; rw [if_neg eb]
      have e2 : setN ss b s b' = ss b' := by unfold setN; rw [if_neg eb]
      rw [e1, e2]
      exact w.congr fun t ht => (dueR_set (by omega)).symm
  nil := by
    unfold setN
    rw [if_neg (by omega)]
    exact h.nil
theorem Best.uniq {D : Nat → Rat} {b e : Nat} {p p' : Rat} {s s' : Nat} (h : Best D b e p s) (h' : Best D b e p' s') : p = p' ∧ s = s' := by
  have e1 : ¬ p < p' := by rw [← h.at_]; exact h'.least s h.lo h.hi
  have e2 : ¬ p' < p := by rw [← h'.at_]; exact h.least s' h'.lo h'.hi
  have ep : p = p' := by grind
  refine ⟨ep, ?_⟩
  by_cases h1 : s < s'
  · have := h.last s' h1 h'.hi
    rw [h'.at_, ep] at this
    exact absurd this Rat.lt_irrefl
  by_cases h2 : s' < s
  · have := h'.last s h2 h.hi
    rw [h.at_, ep] at this
    exact absurd this Rat.lt_irrefl
  omega
theorem Upto.uniq {g room : Rat} {qs : List Rat} {b e e' : Nat} (h : Upto g room qs b e) (h' : Upto g room qs b e') : e = e' := by
  have key : ∀ {e e' : Nat}, Upto g room qs b e → Upto g room qs b e' → ¬ e < e' := fun {e e'} h h' hl => by
    rcases h.far with z | z
    · have := h'.hi; omega
    · exact h'.fit (e + 1) (by have := h.lo; omega) hl z
  have := key h h'
  have := key h' h
  omega
theorem Tbl.uniq {g room : Rat} {qs : List Rat} {pr pr' : Nat → Rat} {ss ss' : Nat → Nat} (h : Tbl g room qs qs.length pr ss) (h' : Tbl g room qs qs.length pr' ss') : ∀ m b, qs.length - b = m → b < qs.length → pr b = pr' b ∧ ss b = ss' b := by
  intro m
  induction m using Nat.strongRecOn with
  | _ m ih =>
    intro b hm hb
    obtain ⟨e, u, w⟩ := h.way b (by omega) hb
    obtain ⟨e', u', w'⟩ := h'.way b (by omega) hb
    have ee := u.uniq u'
    subst ee
    have hc : ∀ t, b < t → dueR g room qs pr b t = dueR g room qs pr' b t := fun t ht => by
      unfold dueR
      by_cases hn : t < qs.length
      · rw [if_pos hn, if_pos hn, (ih (qs.length - t) (by omega) t rfl hn).1]
      · rw [if_neg hn, if_neg hn]
    exact (w.congr hc).uniq w'
theorem Tbl.fwd {g room : Rat} {qs : List Rat} {pr : Nat → Rat} {ss : Nat → Nat} (h : Tbl g room qs qs.length pr ss) {b : Nat} (hb : b < qs.length) : b < ss b ∧ ss b ≤ qs.length := by
  obtain ⟨e, u, w⟩ := h.way b (by omega) hb
  exact ⟨w.lo, Nat.le_trans w.hi u.hi⟩
def at6 (Γ : AM.Env) : Nat := match Γ with
  | [_, _, _, _, _, _, some (.int b)] => b.toNat
  | _ => 0
/-- how many in each line, from b on -/
def go (ss : Nat → Nat) (n : Nat) : Nat → Nat → List Nat
  | 0, _ => []
  | f + 1, b => if b < n then (ss b - b) :: go ss n f (ss b) else []
theorem go_fuel {ss : Nat → Nat} {n : Nat} (h : ∀ b, b < n → b < ss b) : ∀ f f' b, n - b ≤ f → n - b ≤ f' → go ss n f b = go ss n f' b
  | 0, 0, b, _, _ => rfl
  | 0, f' + 1, b, h1, _ => by
    show [] = if b < n then _ else []
    rw [if_neg (by omega)]
  | f + 1, 0, b, _, h1 => by
    show (if b < n then _ else []) = []
    rw [if_neg (by omega)]
  | f + 1, f' + 1, b, h1, h2 => by
    show (if b < n then _ else []) = (if b < n then _ else [])
    by_cases hb : b < n
    · have := h b hb
      rw [if_pos hb, if_pos hb, go_fuel h f f' (ss b) (by omega) (by omega)]
    · rw [if_neg hb, if_neg hb]
theorem go_step {ss : Nat → Nat} {n : Nat} (h : ∀ b, b < n → b < ss b) {b : Nat} (hb : b < n) : go ss n n b = (ss b - b) :: go ss n n (ss b) := by
  have e : go ss n n b = go ss n (n + 1) b := go_fuel h _ _ _ (by omega) (by omega)
  rw [e]
  show (if b < n then _ else []) = _
  rw [if_pos hb]
theorem go_end {ss : Nat → Nat} {n b : Nat} (hb : ¬ b < n) : go ss n n b = [] := by
  cases n with
  | zero => rfl
  | succ n =>
    show (if b < n + 1 then _ else []) = []
    rw [if_neg hb]
theorem go_congr {ss ss' : Nat → Nat} {n : Nat} (h : ∀ b, b < n → ss b = ss' b) : ∀ f b, go ss n f b = go ss' n f b
  | 0, b => rfl
  | f + 1, b => by
    show (if b < n then _ else []) = (if b < n then _ else [])
    by_cases hb : b < n
    · rw [if_pos hb, if_pos hb, h b hb, go_congr h f]
    · rw [if_neg hb, if_neg hb]
/-! ### sizes -/
structure Cst (X Y : Nat → Rat → Prop) (K L : Nat) : Prop where
  x : Szs X K
  y : Szs Y L
  neg : ∀ {j : Nat} {q : Rat}, X j q → X j (-q)
  sq : ∀ {j : Nat} {q : Rat}, j ≤ K → X j q → Y 1 (q * q)
theorem sl_one {qs : List Rat} {b : Nat} {q : Rat} (h : qs[b]? = some q) : sl qs b 1 = [q] := by
  have := sl_snoc (qs := qs) (b := b) (c := 0) (q := q) (by rw [Nat.add_zero]; exact h)
  rw [this]; rfl
theorem cQ_one {g : Rat} {qs : List Rat} {b : Nat} {q : Rat} (h : qs[b]? = some q) : cQ g qs b (b + 1) = q := by
  unfold cQ
  rw [show b + 1 - b = 1 by omega, sl_one h]
  have := comeQ_snoc g [] q
  rwa [if_neg (by decide)] at this
theorem cQ_next {g : Rat} {qs : List Rat} {b t : Nat} {q : Rat} (hb : b < t) (h : qs[t]? = some q) : cQ g qs b (t + 1) = cQ g qs b t + (g + q) := by
  unfold cQ
  rw [show t + 1 - b = (t - b) + 1 by omega, sl_snoc (q := q) (by rw [show b + (t - b) = t by omega]; exact h), comeQ_snoc, sl_len (by have := lt_of_get h; omega), if_pos (by omega)]
  grind
def nw (n : Nat) (s : Nat → Nat) : List Va := ivs ((List.range n).map s)
theorem nw_len {n : Nat} {s : Nat → Nat} : (nw n s).length = n := by simp [nw, ivs]
theorem nw_get {n k : Nat} {s : Nat → Nat} (h : k < n) : (nw n s)[k]? = some (.int (s k)) := by simp [nw, ivs, iv, h]
theorem nw_set {n k : Nat} {s : Nat → Nat} {v : Nat} : (nw n s).set k (.int v) = nw n (setN s k v) := by
  refine List.ext_getElem? fun j => ?_
  by_cases hj : j < n
  · rw [nw_get hj]
    by_cases e : j = k
    · subst e
      rw [List.getElem?_set_self (by rw [nw_len]; exact hj)]
      unfold setN; rw [if_pos rfl]
    · rw [List.getElem?_set_ne (fun z => e z.symm), nw_get hj]
      unfold setN; rw [if_neg e]
  · rw [List.getElem?_eq_none (by rw [List.length_set, nw_len]; omega), List.getElem?_eq_none (by rw [nw_len]; omega)]
theorem nw_snoc {n : Nat} {s : Nat → Nat} : nw (n + 1) s = nw n s ++ [.int (s n)] := by simp [nw, ivs, iv, List.range_succ]
theorem wv_setN {n k : Nat} {W : Nat → Rat} {q : Rat} : (wv n W).set k (Qv q) = wv n (setN W k q) := wv_set
section
variable {X Y : Nat → Rat → Prop} {K L : Nat} (c : Cst X Y K L)
include c
theorem Cst.cq {g : Rat} (hg : X 1 g) {qs : List Rat} (hq : ∀ q ∈ qs, X 1 q) {b t : Nat} (h : t ≤ qs.length) : X (2 * (t - b) + 1) (cQ g qs b t) := by
  have := c.x.come hg (qs := sl qs b (t - b)) fun q hq' => hq q (sl_mem hq')
  by_cases hb : b ≤ t
  · rwa [sl_len (by omega)] at this
  · unfold cQ
    rw [show t - b = 0 by omega] at this ⊢
    exact this
theorem Cst.cost {room k : Rat} {j m : Nat} (hr : X j room) (hk : X m k) (hK : j + m ≤ K) : Y 1 (costR room k) := by
  unfold costR
  split
  · exact c.y.zero
  · have := c.sq hK (c.x.add hr (c.neg hk))
    rwa [← Rat.sub_eq_add_neg] at this
theorem cost_ok (k : Nat) {come room : Rat} {j m : Nat} (hr : X j room) (hk : X m come) (hK : j + m ≤ K) {S : Sto} {P : PV} {E : PX} (h : P (Qv (costR room come)) S) : call Hd.T (k + 4) "cost_of" [Qv come, Qv room] S P E := by
  refine call_def (d := Hd.f_cost_of) rfl rfl ?_
  unfold Hd.f_cost_of
  walk_at "am"
  have b1 : BQ 2000 room := c.x.big (by omega) hr
  have b2 : BQ 2000 come := c.x.big (by omega) hk
  have hs : X (j + m) (room - come) := by
    have := c.x.add hr (c.neg hk)
    rwa [← Rat.sub_eq_add_neg] at this
  have b3 : BQ 2000 (room - come) := c.x.big hK hs
  refine minus_ok (T := Hd.T) rfl rfl rfl _ _ _ b1 b2 (by decide) ?_
  rw [e0]
  have b0 : BQ 2000 (0 : Rat) := BQ.mono ⟨(show (0 : Nat) < 2 ^ 1 by decide), (show (1 : Nat) < 2 ^ 1 by decide)⟩ (by omega)
  refine less_ok (T := Hd.T) rfl _ _ _ b3 b0 (by decide) ?_
  unfold costR at h
  walk_at "am"
  by_cases hl : room < come
  · rw [if_pos (by grind)]
    rw [if_pos hl] at h
    exact fin_keep h
  · rw [if_neg (by grind)]
    rw [if_neg hl] at h
    refine times_ok (T := Hd.T) rfl rfl rfl _ _ _ b3 b3 (by decide) (fin_keep h)
theorem ways_ok (k : Nat) (qs : List Rat) (g room : Rat) {R : Nat} (hq : ∀ q ∈ qs, X 1 q) (hg : X 1 g) (hr : X R room) (hK : 2 * qs.length + 1 + R ≤ K) (hL : qs.length + 2 ≤ L) (hl : qs.length ≤ 1000) {v : Va} {S : Sto} {P : PV} {E : PX} (hv : LV S v (qs.map Qv))
    (h : ∀ pr ss, Tbl g room qs qs.length pr ss → (∀ b, b ≤ qs.length → Y (qs.length - b + 1) (pr b)) → P (.tup [.loc S.length, .loc (S.length + 1)]) (S ++ [.lst (wv (qs.length + 1) pr), .lst (nw (qs.length + 1) ss)])) : call Hd.T (k + 5) "ways_of" [v, Qv g, Qv room] S P E := by
  refine call_def (d := Hd.f_ways_of) rfl rfl ?_
  unfold Hd.f_ways_of
  obtain ⟨n, hn⟩ : ∃ n, n = qs.length := ⟨_, rfl⟩
  rw [← hn] at h hK hL hl
  refine seq_to (call_mono _ _) [some v, some (Qv g), some (Qv room), some (.int n), none, none, none, none, none, none, none, none] S ?_ ?_
  · walk_at "am"
    refine hv.len ?_
    rw [List.length_map, ← hn]
    first | exact ⟨rfl, rfl⟩ | rfl
  refine seq_to (call_mono _ _) [some v, some (Qv g), some (Qv room), some (.int n), some (.loc S.length), none, none, none, none, none, none, none] (S ++ [.lst (wv (n + 1) fun _ => 0)]) ?_ ?_
  · walk_at "am"
    refine ⟨by omega, by omega, ?_⟩
    refine cpL_inv (call_mono _ _) (fun i acc => acc = wv i fun _ => 0) (fun acc => trivial) rfl ?_ ?_
    · rintro i x acc hx rfl
      obtain ⟨hi, rfl⟩ := rangeV_get hx
      refine ⟨_, rfl, ?_⟩
      walk_at "am"
      refine ⟨by rw [wv_len]; omega, ?_⟩
      rw [wv_snoc]; rfl
    rintro acc rfl
    rw [rangeV_len, show ((n : Int) + 1).toNat = n + 1 by omega]
    exact ⟨rfl, rfl⟩
  refine seq_to (call_mono _ _) [some v, some (Qv g), some (Qv room), some (.int n), some (.loc S.length), none, some (.loc (S.length + 1)), none, none, none, none, none] (S ++ [.lst (wv (n + 1) fun _ => 0), .lst (nw (n + 1) fun _ => n)]) ?_ ?_
  · walk_at "am"
    refine ⟨by omega, by omega, ?_⟩
    have e3 : ∀ xs : List Va, (S ++ [Ob.lst (wv (n + 1) fun _ => 0), Ob.lst xs]) = (S ++ [Ob.lst (wv (n + 1) fun _ => 0)]) ++ [.lst xs] := fun xs => by simp
    have e4 : S.length + 1 = (S ++ [Ob.lst (wv (n + 1) fun _ => 0)]).length := by simp
    rw [e3 [], e4]
    refine cpL_inv (call_mono _ _) (fun i acc => acc = nw i fun _ => n) (fun acc => trivial) rfl ?_ ?_
    · rintro i x acc hx rfl
      obtain ⟨hi, rfl⟩ := rangeV_get hx
      refine ⟨_, rfl, ?_⟩
      walk_at "am"
      refine ⟨by rw [nw_len]; omega, ?_⟩
      rw [nw_snoc]
    rintro acc rfl
    rw [rangeV_len, show ((n : Int) + 1).toNat = n + 1 by omega]
    exact ⟨by simp, by simp⟩
  refine seq_cut (call_mono _ _) (fun Γ S' => ∃ pr ss o1 o2 o3 o4 o5, Tbl g room qs n pr ss ∧ (∀ b, b ≤ n → Y (n - b + 1) (pr b)) ∧ S' = S ++ [.lst (wv (n + 1) pr), .lst (nw (n + 1) ss)] ∧ Γ = [some v, some (Qv g), some (Qv room), some (.int n), some (.loc S.length), none, some (.loc (S.length + 1)), o1, o2, o3, o4, o5]) ?_ ?_
  · walk_at "am"
    refine ⟨by omega, by omega, ?_⟩
    refine for_ix (call_mono _ _) (fun k Γ S' => ∃ pr ss o1 o2 o3 o4 o5, Tbl g room qs k pr ss ∧ (∀ b, b ≤ n → Y (n - b + 1) (pr b)) ∧ S' = S ++ [.lst (wv (n + 1) pr), .lst (nw (n + 1) ss)] ∧ Γ = [some v, some (Qv g), some (Qv room), some (.int n), some (.loc S.length), none, some (.loc (S.length + 1)), o1, o2, o3, o4, o5]) ?_ ?_ ?_
    · exact ⟨fun _ => 0, fun _ => n, none, none, none, none, none, ⟨fun b h1 h2 => by omega, rfl⟩, fun b hb => c.y.up c.y.zero (by omega), rfl, rfl⟩
    · rintro i x Γ S' hx ⟨pr, ss, o1, o2, o3, o4, o5, hT, hY, rfl, rfl⟩
      obtain ⟨hi, rfl⟩ := rangeV_get hx
      have hi' : i < n := by omega
      refine ⟨_, rfl, ?_⟩
      obtain ⟨b, hb⟩ : ∃ b, b + (i + 1) = n := ⟨n - (i + 1), by omega⟩
      have eb : (n : Int) - 1 - (0 + (i : Nat)) = (b : Nat) := by omega
      have hbn : b < qs.length := by omega
      obtain ⟨q0, hq0⟩ : ∃ q0, qs[b]? = some q0 := ⟨qs[b], by simp [hbn]⟩
      have hget : ∀ {t q}, qs[t]? = some q → (qs.map Qv)[t]? = some (Qv q) := fun h => by rw [List.getElem?_map, h]; rfl
      walk_at "am"
      rw [eb]
      refine (hv.more _).sub (L2.atI_nat (hget hq0)) ?_
      refine seq_cut (call_mono _ _) (fun Γ S' => ∃ e p s o3 o4 o5, Upto g room qs b e ∧ Best (dueR g room qs pr b) b e p s ∧ Y (n - b + 1) p ∧ S' = S ++ [.lst (wv (n + 1) (setN pr b p)), .lst (nw (n + 1) (setN ss b s))] ∧ Γ = [some v, some (Qv g), some (Qv room), some (.int n), some (.loc S.length), none, some (.loc (S.length + 1)), some (.int (0 + (i : Nat))), some (.int b), o3, o4, o5]) ?_ ?_
      · walk_at "am"
        refine ⟨⟨by omega, by omega, by omega, by omega⟩, ?_⟩
        have xq : ∀ {t}, t ≤ n → X (2 * n + 1) (cQ g qs b t) := fun {t} ht => c.x.up (c.cq hg hq (by omega)) (by omega)
        refine for_ix (call_mono _ _) (fun j Γ S' => ∃ pr' ss' o10 o11, (j = 0 → pr' = pr ∧ ss' = ss) ∧ (0 < j → ∃ p s, pr' = setN pr b p ∧ ss' = setN ss b s ∧ Best (dueR g room qs pr b) b (b + j) p s ∧ Y (n - b + 1) p) ∧ (∀ t, b + 1 < t → t ≤ b + j → ¬ room < cQ g qs b t) ∧ S' = S ++ [.lst (wv (n + 1) pr'), .lst (nw (n + 1) ss')] ∧ Γ = [some v, some (Qv g), some (Qv room), some (.int n), some (.loc S.length), none, some (.loc (S.length + 1)), some (.int (0 + (i : Nat))), some (.int b), some (Qv (cQ g qs b (b + max j 1))), o10, o11]) ?_ ?_ ?_
        · exact ⟨pr, ss, _, _, fun _ => ⟨rfl, rfl⟩, fun z => by omega, fun t h1 h2 => by omega, rfl, by rw [show b + max 0 1 = b + 1 from rfl, cQ_one hq0]⟩
        · rintro j x Γ S' hx ⟨pr', ss', o10, o11, h0, h1, h2, rfl, rfl⟩
          obtain ⟨hj, rfl⟩ := rangeV_get hx
          refine ⟨_, rfl, ?_⟩
          have et : ((b : Int) + 1 + (j : Nat)) = ((b + (j + 1) : Nat) : Int) := by push_cast; omega
          have hjn : b + (j + 1) ≤ n := by omega
          have hpt : ∀ t, b < t → pr' t = pr t := fun t ht => by
            by_cases j0 : j = 0
            · rw [(h0 j0).1]
            · obtain ⟨p, s, rfl, _⟩ := h1 (by omega)
              unfold setN; rw [if_neg (by omega)]
          rw [et]
          refine seq_cut (call_mono _ _) (fun Γ S' => (∀ t, b + 1 < t → t ≤ b + (j + 1) → ¬ room < cQ g qs b t) ∧ S' = S ++ [.lst (wv (n + 1) pr'), .lst (nw (n + 1) ss')] ∧ Γ = [some v, some (Qv g), some (Qv room), some (.int n), some (.loc S.length), none, some (.loc (S.length + 1)), some (.int (0 + (i : Nat))), some (.int b), some (Qv (cQ g qs b (b + (j + 1)))), some (.int (b + (j + 1) : Nat)), o11]) ?_ ?_
          · walk_at "am"
            by_cases j0 : j = 0
            · subst j0
              rw [if_neg (by omega)]
              exact ⟨fun t h3 h4 => by omega, rfl⟩
            · rw [if_pos (by omega)]
              have hbj : b + j < qs.length := by omega
              obtain ⟨q1, hq1⟩ : ∃ q1, qs[b + j]? = some q1 := ⟨qs[b + j], by simp [hbj]⟩
              rw [show ((b + (j + 1) : Nat) : Int) - 1 = ((b + j : Nat) : Int) by push_cast; omega, show max j 1 = j by omega]
              refine (hv.more _).sub (L2.atI_nat (hget hq1)) ?_
              have x1 := hq q1 (List.mem_of_getElem? hq1)
              refine plus_ok (T := Hd.T) rfl rfl rfl _ _ _ (c.x.big (by omega) hg) (c.x.big (by omega) x1) (by decide) ?_
              refine plus_ok (T := Hd.T) rfl rfl rfl _ _ _ (c.x.big (by omega) (xq (t := b + j) (by omega))) (c.x.big (k := 2) (by omega) (c.x.add hg x1)) (by decide) ?_
              rw [← cQ_next (by omega) hq1]
              refine less_ok (T := Hd.T) rfl _ _ _ (c.x.big (by omega) hr) (c.x.big (by omega) (xq (t := b + j + 1) (by omega))) (by decide) ?_
              refine ⟨_, rfl, ?_⟩
              by_cases hlt : room < cQ g qs b (b + j + 1)
              · rw [if_pos (decide_eq_true hlt)]
                obtain ⟨p, s, rfl, rfl, hB, hYp⟩ := h1 (by omega)
                exact ⟨b + j, p, s, _, _, _, ⟨by omega, by omega, h2, .inr hlt⟩, hB, hYp, rfl, rfl⟩
              · rw [if_neg (by simp [hlt])]
                refine ⟨fun t h3 h4 => ?_, rfl, rfl⟩
                by_cases z : t ≤ b + j
                · exact h2 t h3 z
                · obtain rfl : t = b + j + 1 := by omega
                  exact hlt
          rintro Γ S' ⟨hfit, rfl, rfl⟩
          obtain ⟨D, hD⟩ : ∃ D, D = dueR g room qs pr b (b + (j + 1)) := ⟨_, rfl⟩
          refine seq_to (call_mono _ _) [some v, some (Qv g), some (Qv room), some (.int n), some (.loc S.length), none, some (.loc (S.length + 1)), some (.int (0 + (i : Nat))), some (.int b), some (Qv (cQ g qs b (b + (j + 1)))), some (.int (b + (j + 1) : Nat)), some (Qv 0)] (S ++ [.lst (wv (n + 1) pr'), .lst (nw (n + 1) ss')]) (by walk_at "am"; first | exact ⟨rfl, rfl⟩ | rfl) ?_
          refine seq_to (call_mono _ _) [some v, some (Qv g), some (Qv room), some (.int n), some (.loc S.length), none, some (.loc (S.length + 1)), some (.int (0 + (i : Nat))), some (.int b), some (Qv (cQ g qs b (b + (j + 1)))), some (.int (b + (j + 1) : Nat)), some (Qv D)] (S ++ [.lst (wv (n + 1) pr'), .lst (nw (n + 1) ss')]) ?_ ?_
          · walk_at "am"
            rw [hD]
            unfold dueR
            by_cases ht : b + (j + 1) < n
            · rw [if_pos (by omega), if_pos (by omega)]
              refine cost_ok c _ hr (xq (t := b + (j + 1)) (by omega)) (by omega) ?_
              refine LV.here.sub (L2.atI_nat (wv_get (by omega))) ?_
              rw [hpt _ (by omega)]
              refine plus_ok (T := Hd.T) rfl rfl rfl _ _ _ (c.y.big (by omega) (c.cost hr (xq (t := b + (j + 1)) (by omega)) (by omega))) (c.y.big (by omega) (hY (b + (j + 1)) (by omega))) (by decide) ?_
              first | exact ⟨rfl, rfl⟩ | rfl
            · rw [if_neg (by omega), if_neg (by omega)]
          have hYD : Y (n - b + 1) D := by
            rw [hD]
            unfold dueR
            split
            · exact c.y.up (c.y.add (c.cost hr (xq (t := b + (j + 1)) (by omega)) (by omega)) (hY (b + (j + 1)) (by omega))) (by omega)
            · exact c.y.up c.y.zero (by omega)
          have hmx : max (j + 1) 1 = j + 1 := by omega
          walk_at "am"
          by_cases j0 : j = 0
          · rw [if_pos (by omega)]
            refine ⟨_, putO_at (by rw [wv_len]; omega), _, putO_at (by rw [nw_len]; omega), ?_⟩
            rw [wv_setN, nw_set, hmx]
            refine ⟨setN pr' b D, setN ss' b (b + (j + 1)), _, _, fun z => by omega, fun _ => ⟨D, b + (j + 1), by rw [(h0 j0).1], by rw [(h0 j0).2], ?_, hYD⟩, hfit, rfl, rfl⟩
            subst j0
            rw [hD]
            exact Best.one
          · rw [if_neg (by omega)]
            obtain ⟨p, s, rfl, rfl, hB, hYp⟩ := h1 (by omega)
            refine ⟨Qv p, L2.atI_nat (by rw [wv_get (by omega), setN_at]), ?_⟩
            refine less_ok (T := Hd.T) rfl _ _ _ (c.y.big (by omega) hYp) (c.y.big (by omega) hYD) (by decide) ?_
            refine ⟨_, rfl, ?_⟩
            by_cases hlt : p < D
            · rw [decide_eq_true hlt, if_neg (by decide), hmx]
              exact ⟨_, _, _, _, fun z => by omega, fun _ => ⟨p, s, rfl, rfl, hB.more (by rw [hD] at hlt; exact hlt), hYp⟩, hfit, rfl, rfl⟩
            · rw [decide_eq_false hlt, if_pos (by decide), hmx]
              refine ⟨_, by rw [sg_p0]; rfl, _, putO_at (by rw [wv_len]; omega), ?_⟩
              rw [ss_p0]
              refine ⟨_, by rw [sg_pl]; rfl, _, putO_at (by rw [nw_len]; omega), ?_⟩
              rw [ss_pl]
              refine ⟨setN pr b D, setN ss b (b + (j + 1)), _, _, fun z => by omega, fun _ => ⟨D, b + (j + 1), rfl, rfl, ?_, hYD⟩, hfit, ?_, rfl⟩
              · have := hB.turn (by omega) (by rw [hD] at hlt; exact hlt)
                rw [hD]
                exact this
              · rw [wv_setN, nw_set, setN_setN, setN_setN]; rfl
        · rintro Γ S' ⟨pr', ss', o10, o11, h0, h1, h2, rfl, rfl⟩
          rw [rangeV_len] at h1 h2 ⊢
          obtain ⟨p, s, rfl, rfl, hB, hYp⟩ := h1 (by omega)
          rw [show b + ((n : Int) + 1 - ((b : Int) + 1)).toNat = n by omega] at hB h2
          exact ⟨n, p, s, _, _, _, ⟨by omega, by omega, h2, .inl hn⟩, hB, hYp, rfl, rfl⟩
      · rintro Γ S' ⟨e, p, s, o3, o4, o5, hu, hB, hYp, rfl, rfl⟩
        walk_at "am"
        have hT2 := hT.set (by omega) hu hB
        have hY2 : ∀ b', b' ≤ n → Y (n - b' + 1) (setN pr b p b') := fun b' hb' => by
          unfold setN
          split
          · rename_i z; subst z; exact hYp
          · exact hY b' hb'
        first | exact ⟨rfl, ⟨_, _, _, _, _, _, _, hT2, hY2, rfl, rfl⟩⟩ | exact ⟨_, _, _, _, _, _, _, hT2, hY2, rfl, rfl⟩
    · rintro Γ S' ⟨pr, ss, o1, o2, o3, o4, o5, hT, hY, rfl, rfl⟩
      rw [rangeV_len, show ((n : Nat) : Int).toNat = n by omega] at hT
      exact ⟨pr, ss, o1, o2, o3, o4, o5, hT, hY, rfl, rfl⟩
  rintro Γ S' ⟨pr, ss, o1, o2, o3, o4, o5, hT, hY, rfl, rfl⟩
  walk_at "am"
  exact fin_keep (h pr ss (hn ▸ hT) hY)
theorem prices_ok (k : Nat) (qs : List Rat) (g room : Rat) {R : Nat} (hq : ∀ q ∈ qs, X 1 q) (hg : X 1 g) (hr : X R room) (hK : 2 * qs.length + 1 + R ≤ K) (hL : qs.length + 2 ≤ L) (hl : qs.length ≤ 1000) {v : Va} {S : Sto} {P : PV} {E : PX} (hv : LV S v (qs.map Qv))
    (h : ∀ pr ss, Tbl g room qs qs.length pr ss → (∀ b, b ≤ qs.length → Y (qs.length - b + 1) (pr b)) → P (.loc S.length) (S ++ [.lst (wv (qs.length + 1) pr), .lst (nw (qs.length + 1) ss)])) : call Hd.T (k + 6) "prices_of" [v, Qv g, Qv room] S P E := by
  refine call_def (d := Hd.f_prices_of) rfl rfl ?_
  unfold Hd.f_prices_of
  walk_at "am"
  refine ways_ok c _ qs g room hq hg hr hK hL hl hv fun pr ss hT hY => ?_
  rw [sub_tup0]
  exact fin_keep (h pr ss hT hY)
omit c in
theorem at6_int {a0 a1 a2 a3 a4 a5 : Option Va} {b : Nat} : at6 [a0, a1, a2, a3, a4, a5, some (.int b)] = b := rfl
theorem fair_ok (k : Nat) (qs : List Rat) (g room : Rat) {R : Nat} (hq : ∀ q ∈ qs, X 1 q) (hg : X 1 g) (hr : X R room) (hK : 2 * qs.length + 1 + R ≤ K) (hL : qs.length + 2 ≤ L) (hl : qs.length ≤ 1000) {o v : Va} {S : Sto} {P : PV} {E : PX} (hv : LV S v (qs.map Qv))
    (h : ∀ pr ss, Tbl g room qs qs.length pr ss → P (.loc (S.length + 2)) (S ++ [.lst (wv (qs.length + 1) pr), .lst (nw (qs.length + 1) ss), .lst (ivs (go ss qs.length qs.length 0))])) : call Hd.T (k + 6) "Fair.counts" [o, v, Qv g, Qv room] S P E := by
  refine call_def (d := Hd.f_Fair_counts) rfl rfl ?_
  unfold Hd.f_Fair_counts
  walk_at "am"
  refine ways_ok c _ qs g room hq hg hr hK hL hl hv fun pr ss hT hY => ?_
  have h := h pr ss hT
  obtain ⟨n, hn⟩ : ∃ n, n = qs.length := ⟨_, rfl⟩
  have hfw : ∀ b, b < n → b < ss b ∧ ss b ≤ n := fun b hb => hn ▸ hT.fwd (hn ▸ hb)
  rw [← hn] at h hl ⊢
  clear hT hY
  rw [sub_tup1]
  obtain ⟨A, hA⟩ : ∃ A, A = wv (n + 1) pr := ⟨_, rfl⟩
  have hBg : ∀ b, b < n → (nw (n + 1) ss)[b]? = some (.int (ss b)) := fun b hb => nw_get (by omega)
  obtain ⟨Bs, hBs⟩ : ∃ Bs, Bs = nw (n + 1) ss := ⟨_, rfl⟩
  rw [← hA, ← hBs] at h ⊢
  rw [← hBs] at hBg
  clear hA hBs
  rw [show (S ++ [Ob.lst A, Ob.lst Bs] ++ [Ob.lst []]) = S ++ [Ob.lst A, Ob.lst Bs, Ob.lst (ivs [])] by simp [ivs], show (S ++ [Ob.lst A, Ob.lst Bs]).length = S.length + 2 by simp]
  refine seq_cut (call_mono _ _) (fun Γ S' => S' = S ++ [.lst A, .lst Bs, .lst (ivs (go ss n n 0))] ∧ ∃ e, Γ = [some o, some v, some (Qv g), some (Qv room), some (.loc (S.length + 1)), some (.loc (S.length + 2)), e]) ?_ ?_
  · refine wh_rule (call_mono _ _) (fun Γ S' => ∃ cs b, b ≤ n ∧ cs.length ≤ b ∧ cs ++ go ss n n b = go ss n n 0 ∧ S' = S ++ [.lst A, .lst Bs, .lst (ivs cs)] ∧ Γ = [some o, some v, some (Qv g), some (Qv room), some (.loc (S.length + 1)), some (.loc (S.length + 2)), some (.int (b : Nat))]) (fun Γ _ => n - at6 Γ) ?_ ?_
    · exact ⟨[], 0, Nat.zero_le _, Nat.le_refl _, rfl, rfl, rfl⟩
    · rintro Γ S' ⟨cs, b, hb, hcl, hcs, rfl, rfl⟩
      walk_at "am"
      refine (hv.more _).len ?_
      rw [List.length_map, ← hn]
      walk_at "am"
      by_cases hlt : b < n
      · obtain ⟨f1, f2⟩ := hfw b hlt
        rw [if_pos (by omega)]
        refine ⟨.int (ss b), L2.atI_nat (hBg b hlt), ?_⟩
        walk_at "am"
        refine ⟨by rw [ivs_len]; omega, .int (ss b), L2.atI_nat (hBg b hlt), ?_⟩
        rw [at6_int, at6_int]
        refine ⟨⟨cs ++ [ss b - b], ss b, f2, by rw [List.length_append, List.length_singleton]; omega, ?_, ?_, rfl⟩, by omega⟩
        · rw [← hcs, go_step (fun b hb => (hfw b hb).1) hlt]; simp
        · simp [ivs, iv]; omega
      · rw [if_neg (by omega)]
        rw [go_end hlt, List.append_nil] at hcs
        rw [hcs]
        exact ⟨rfl, _, rfl⟩
  rintro Γ S' ⟨rfl, e, rfl⟩
  walk_at "am"
  exact fin_keep h
end
end LawProof
end

section
set_option linter.all false
set_option maxRecDepth 100000
set_option maxHeartbeats 4000000
open PySem
open Hd (f_law)
namespace LawProof
open PySem AM FR
local macro_rules | `(tactic| walk_at "am") => `(tactic| try simp only [st_set0, st_setS, iteTrue, iteFalse, iteDec, iteNDec, exSome, exBl, W_var, W_int, W_bl, W_non, W_str, W_tup, W_lst, W_bin, W_neg, W_cmp, W_isN, W_notN, W_lrev, wIsb, wNisb, W_chain, W_tst, W_ite, W_call, W_len, W_abs, W_isi, W_sub, WT_val, WT_not, WT_and, WT_or, WA_one, WA_cons, WO_one, WO_cons, WB_val, WB_not, WB_and, WB_or, WBA_one, WBA_cons, WBO_one, WBO_cons, WL_nil, WL_cons, WS_set, WS_ret, WS_retN, WS_pass, WS_brk, WS_cont, WS_drop, WS_ite, WS_raise, WSs_nil, Ss_set, Ss_ret, Ss_retN, Ss_pass, Ss_brk, Ss_cont, Ss_drop, Ss_raise, Ss_ite_ret, Ss_ite_retN, Ss_ite_raise, Ss_ite_cont, Ss_ite_brk, Ss_ite_last, gt_0, gt_S, wAdd_int, wSub_int, wMul_int, wMul_rep, wDiv_int, wMod_int, wPow_int, wAdd_str, wNeg_int, wAbs_int, wLt_int, wLe_int, wGt_int, wGe_int, wEq_int, wNe_int, wEq_bl, wNe_bl, wEq_str, wNe_str, wLen_tup, wLen_lst, tru_bl, tru_int, ty_int_int, ty_int_bool, ty_int_str, ty_int_tuple, ty_int_list, ty_int_dict, ty_bl_int, ty_bl_bool, ty_bl_str, ty_bl_tuple, ty_bl_list, ty_bl_dict, ty_str_int, ty_str_bool, ty_str_str, ty_str_tuple, ty_str_list, ty_str_dict, ty_tup_int, ty_tup_bool, ty_tup_str, ty_tup_tuple, ty_tup_list, ty_tup_dict, ty_lst_int, ty_lst_bool, ty_lst_str, ty_lst_tuple, ty_lst_list, ty_lst_dict, ty_dct_int, ty_dct_bool, ty_dct_str, ty_dct_tuple, ty_dct_list, ty_dct_dict, ty_non, sub_tup0, sub_tup1, sub_tup2, sub_tup3, sub_tup4, sub_tup5, sub_lst0, sub_lst1, sub_lst2, sub_lst3, sub_lst4, sub_lst5, startA, List.map_cons, List.map_nil, List.length_cons, List.length_nil, List.replicate, List.cons_append, List.nil_append, true_and, and_true, ne_eq, isNon, Bool.not_true, Bool.not_false, Bool.true_or, Bool.or_true, Bool.false_or, reduceIte, Nat.reduceAdd, Nat.zero_add, Int.cast_ofNat_Int, Int.reduceEq, Int.reduceLT, Int.reduceLE, Nat.reduceLeDiff, decide_true, decide_false, not_true_eq_false, not_false_eq_true, Nat.reduceSub, Int.reduceToNat, W_slice, W_blt, W_mth, W_comp, WOe_none, WOe_some, WI_seq, WI_range1, WI_range2, WI_enum, WI_zip, WI_rev, WT0_none, WT0_some, Ss_asg, Ss_setSub, Ss_aug, WS_asg, WS_aug, WS_for, WS_setC, bT_name, bT_tup, bT_lst, bTs_nil, bTs_name, seq_lst, seq_tup, seq_scr, seq_str, seq_loc, lst_lst, lst_scr, lst_loc, exInt, exLoc, exLst, exLst1, exLV_lst, exLV_loc, mOk_app, mOk_pop, mOk_ext, mOk_ins, mOk_ind, mOk_join, mOk_indl, m_append, m_pop, m_extend, m_insert, m_join, b_listL, b_listT, b_listS, b_listK, b_tupL, b_tupT, b_tupK, b_max2, b_min2, b_ord, b_str, sl_lst, sl_loc, sl_scr, sl_tupE, sl_strE, cat_lst, cat_loc, cat_tup, wLen_scr, wLen_loc, wLen_str, wSub_scr, wSub_loc, wSub_str, aug_add, aug_sub, tru_lst, tru_tup, tru_non, ty_scr_list, sg_p0, sg_pl, ss_p0, ss_pl, ob_set0, ob_set1, ob_set2, ob_set3, ob_g0, ob_g1, ob_g2, ob_g3, List.append_assoc, List.length_append, List.nil_append, Nat.add_zero, Nat.add_assoc, Int.reduceNeg, wipeA, orc_run, orc_glob, orc_init, orc_isa, orc_gdct, W_isc, b_intB, W_glob, W_gget, W_fld, W_mcall, W_make, W_make0, W_dsp, Ss_setFld, subO_l, subO_d, lenO_l, lenO_d, listO_l, listO_d, putO_l, keyV_int, keyV_str, wIn_str, wNotin_str, mapSome, at_0, at_1, at_2, at_3, at_4, at_5, ix_1_0, ix_2_0, ix_2_1, ix_3_0, ix_3_1, ix_3_2, ix_4_0, ix_4_1, ix_4_2, ix_4_3, va_s0, va_s1, va_s2, va_s3])
local macro_rules | `(tactic| walk_at "if") => `(tactic| (try simp only []); rw [Ss_ite]; simp only [st_set0, st_setS, iteTrue, iteFalse, iteDec, iteNDec, exSome, exBl, W_var, W_int, W_bl, W_non, W_str, W_tup, W_lst, W_bin, W_neg, W_cmp, W_isN, W_notN, W_lrev, wIsb, wNisb, W_chain, W_tst, W_ite, W_call, W_len, W_abs, W_isi, W_sub, WT_val, WT_not, WT_and, WT_or, WA_one, WA_cons, WO_one, WO_cons, WB_val, WB_not, WB_and, WB_or, WBA_one, WBA_cons, WBO_one, WBO_cons, WL_nil, WL_cons, WS_set, WS_ret, WS_retN, WS_pass, WS_brk, WS_cont, WS_drop, WS_ite, WS_raise, WSs_nil, Ss_set, Ss_ret, Ss_retN, Ss_pass, Ss_brk, Ss_cont, Ss_drop, Ss_raise, Ss_ite_ret, Ss_ite_retN, Ss_ite_raise, Ss_ite_cont, Ss_ite_brk, Ss_ite_last, gt_0, gt_S, wAdd_int, wSub_int, wMul_int, wMul_rep, wDiv_int, wMod_int, wPow_int, wAdd_str, wNeg_int, wAbs_int, wLt_int, wLe_int, wGt_int, wGe_int, wEq_int, wNe_int, wEq_bl, wNe_bl, wEq_str, wNe_str, wLen_tup, wLen_lst, tru_bl, tru_int, ty_int_int, ty_int_bool, ty_int_str, ty_int_tuple, ty_int_list, ty_int_dict, ty_bl_int, ty_bl_bool, ty_bl_str, ty_bl_tuple, ty_bl_list, ty_bl_dict, ty_str_int, ty_str_bool, ty_str_str, ty_str_tuple, ty_str_list, ty_str_dict, ty_tup_int, ty_tup_bool, ty_tup_str, ty_tup_tuple, ty_tup_list, ty_tup_dict, ty_lst_int, ty_lst_bool, ty_lst_str, ty_lst_tuple, ty_lst_list, ty_lst_dict, ty_dct_int, ty_dct_bool, ty_dct_str, ty_dct_tuple, ty_dct_list, ty_dct_dict, ty_non, sub_tup0, sub_tup1, sub_tup2, sub_tup3, sub_tup4, sub_tup5, sub_lst0, sub_lst1, sub_lst2, sub_lst3, sub_lst4, sub_lst5, startA, List.map_cons, List.map_nil, List.length_cons, List.length_nil, List.replicate, List.cons_append, List.nil_append, true_and, and_true, ne_eq, isNon, Bool.not_true, Bool.not_false, Bool.true_or, Bool.or_true, Bool.false_or, reduceIte, Nat.reduceAdd, Nat.zero_add, Int.cast_ofNat_Int, Int.reduceEq, Int.reduceLT, Int.reduceLE, Nat.reduceLeDiff, decide_true, decide_false, not_true_eq_false, not_false_eq_true, Nat.reduceSub, Int.reduceToNat, W_slice, W_blt, W_mth, W_comp, WOe_none, WOe_some, WI_seq, WI_range1, WI_range2, WI_enum, WI_zip, WI_rev, WT0_none, WT0_some, Ss_asg, Ss_setSub, Ss_aug, WS_asg, WS_aug, WS_for, WS_setC, bT_name, bT_tup, bT_lst, bTs_nil, bTs_name, seq_lst, seq_tup, seq_scr, seq_str, seq_loc, lst_lst, lst_scr, lst_loc, exInt, exLoc, exLst, exLst1, exLV_lst, exLV_loc, mOk_app, mOk_pop, mOk_ext, mOk_ins, mOk_ind, mOk_join, mOk_indl, m_append, m_pop, m_extend, m_insert, m_join, b_listL, b_listT, b_listS, b_listK, b_tupL, b_tupT, b_tupK, b_max2, b_min2, b_ord, b_str, sl_lst, sl_loc, sl_scr, sl_tupE, sl_strE, cat_lst, cat_loc, cat_tup, wLen_scr, wLen_loc, wLen_str, wSub_scr, wSub_loc, wSub_str, aug_add, aug_sub, tru_lst, tru_tup, tru_non, ty_scr_list, sg_p0, sg_pl, ss_p0, ss_pl, ob_set0, ob_set1, ob_set2, ob_set3, ob_g0, ob_g1, ob_g2, ob_g3, List.append_assoc, List.length_append, List.nil_append, Nat.add_zero, Nat.add_assoc, Int.reduceNeg, wipeA, orc_run, orc_glob, orc_init, orc_isa, orc_gdct, W_isc, b_intB, W_glob, W_gget, W_fld, W_mcall, W_make, W_make0, W_dsp, Ss_setFld, subO_l, subO_d, lenO_l, lenO_d, listO_l, listO_d, putO_l, keyV_int, keyV_str, wIn_str, wNotin_str, mapSome, at_0, at_1, at_2, at_3, at_4, at_5, ix_1_0, ix_2_0, ix_2_1, ix_3_0, ix_3_1, ix_3_2, ix_4_0, ix_4_1, ix_4_2, ix_4_3, va_s0, va_s1, va_s2, va_s3])
/-! ### sizes -/
theorem Xd.neg {D : Int} {N j : Nat} {q : Rat} (h : Xd D N j q) : Xd D N j (-q) := by
  obtain ⟨l, a, h1, h2⟩ := h
  refine ⟨l, -a, h1.neg, ?_⟩
  have : ((-a : Int) : Rat) = -(a : Rat) := by push_cast; rfl
  rw [this, ← h2]
  grind
theorem cst {D : Int} (h0 : 0 < D) (h1 : D < 2 ^ 40) : Cst (Xd D 110) (Xd (D * D) 820) 300 100 where
  x := Xd_szs h0 (by omega) (by decide) (by decide)
  y := Xd_szs (Int.mul_pos h0 h0) (by
    have := Int.mul_lt_mul_of_pos_left h1 h0
    have h2 := Int.mul_lt_mul_of_pos_right h1 (show (0 : Int) < 2 ^ 40 by decide)
    omega) (by decide) (by decide)
  neg := Xd.neg
  sq := fun {j q} hj ⟨l, a, h2, h3⟩ => by
    refine ⟨Nat.le_refl _, a * a, (h2.mul h2).mono (by omega), ?_⟩
    have e1 : ((D * D : Int) : Rat) = (D : Rat) * D := by push_cast; rfl
    have e2 : ((a * a : Int) : Rat) = (a : Rat) * a := by push_cast; rfl
    rw [e1, e2, ← h3]
    grind
/-- what widths stand over -/
def DD (way bottom : Int) : Int := if way = 2 then bottom else 12
def WB (way bottom : Int) : Prop := (0 ≤ way ∧ way < 3) ∧ 1 ≤ bottom ∧ bottom ≤ 10 ^ 9
theorem WB.pos {way bottom : Int} (h : WB way bottom) : 0 < DD way bottom ∧ DD way bottom < 2 ^ 40 := by
  obtain ⟨_, h1, h2⟩ := h
  unfold DD
  split <;> omega
abbrev XX (way bottom : Int) := Xd (DD way bottom) 110
theorem WB.int {way bottom : Int} (h : WB way bottom) {i : Int} (hi : i.natAbs < 2 ^ 60) : XX way bottom 1 (i : Rat) := by
  obtain ⟨h1, h2⟩ := h.pos
  refine Xd.frac (N := 60) (M := 50) (a := i) (b := 1) (c := DD way bottom) (hb_ hi) (by decide) (by omega) (hb_ (by omega)) ?_
  rw [Rat.divInt_eq_div]
  show (i : Rat) = (i : Rat) / 1
  grind
theorem _root_.FR.CB.ofLe {a b : Int} (h : CB b) (l : a.natAbs ≤ b.natAbs) : CB a := by
  unfold CB at *
  by_cases h0 : a.natAbs = 0
  · rw [h0]; exact Nat.zero_le _
  · have h1 : b.natAbs ≠ 0 := by omega
    have h2 := (Nat.log2_lt h1).mp (Nat.lt_succ_of_le h)
    exact Nat.le_of_lt_succ ((Nat.log2_lt h0).mpr (by omega))
theorem _root_.FR.CB.fd {c m : Int} (h : CB c) (hm : 0 < m) : CB (c.fdiv m) := by
  refine h.ofLe ?_
  rw [Int.fdiv_eq_ediv_of_nonneg c (by omega)]
  by_cases hc : 0 ≤ c
  · have := Int.ediv_le_self m hc
    have := Int.ediv_nonneg hc (show 0 ≤ m by omega)
    omega
  · have h1 : c ≤ c / m := by
      refine Int.le_ediv_of_mul_le hm ?_
      have := Int.mul_le_mul_of_nonneg_left (show (1 : Int) ≤ m by omega) (show 0 ≤ -c by omega)
      rw [Int.mul_one, Int.neg_mul] at this
      omega
    have h2 : c / m < 0 := Int.ediv_neg_of_neg_of_pos (by omega) hm
    omega
theorem c30 : L2.CPow 10 30 := ⟨by decide, by decide, by decide⟩
theorem c9 : L2.CPow 10 9 := ⟨by decide, by decide, by decide⟩
theorem width_ok (k : Nat) (c way bottom : Int) (hc : CB c) (hw : WB way bottom) {S : Sto} {P : PV} {E : PX} (h : ∀ q : Rat, XX way bottom 1 q → P (Qv q) S) : call Hd.T (k + 2) "_law_width_by" [.int c, .int way, .int bottom] S P E := by
  refine call_def (d := Hd.f_l_width_by) rfl rfl ?_
  unfold Hd.f_l_width_by
  have f9 := fm c 9 (by decide)
  have f30 := fm c 30 (by decide)
  have f4 := fm (c.fdiv 30) 4 (by decide)
  have f30p := fm c (10 ^ 30) (by decide)
  obtain ⟨⟨w1, w2⟩, b1, b2⟩ := id hw
  walk_at "am"
  by_cases e1 : way = 0
  · rw [if_pos e1, ← Qint]
    exact fin_keep (h _ (hw.int (by omega)))
  rw [if_neg e1]
  by_cases e2 : way = 1
  · rw [if_pos e2]
    refine ⟨d _ (by decide) (by decide), ?_⟩
    refine low_ok lq _ _ _ (by omega) (n := 4) (hb_ (by omega)) (by decide) ?_
    refine fin_keep (h _ ?_)
    obtain ⟨b, hb⟩ : ∃ b, b = 1 + (c.fdiv 30).fmod 4 := ⟨_, rfl⟩
    rw [← hb]
    obtain ⟨c', hc', hc2⟩ : ∃ c' : Int, b * c' = DD way bottom ∧ B 50 c' := by
      unfold DD
      rw [if_neg (by omega)]
      have : b = 1 ∨ b = 2 ∨ b = 3 ∨ b = 4 := by omega
      rcases this with z | z | z | z <;> subst z
      · exact ⟨12, rfl, hb_ (by decide)⟩
      · exact ⟨6, rfl, hb_ (by decide)⟩
      · exact ⟨4, rfl, hb_ (by decide)⟩
      · exact ⟨3, rfl, hb_ (by decide)⟩
    exact Xd.frac (N := 60) (M := 50) (hb_ (by omega)) (by omega) hc' hc2 rfl
  rw [if_neg e2]
  refine ⟨c30, by decide, ?_⟩
  refine low_ok lq _ _ _ (by omega) (n := 40) (hb_ (by omega)) (by decide) ?_
  refine fin_keep (h _ (Xd.frac (N := 100) (M := 10) (c := 1) (hb_ (by omega)) (by omega) ?_ (hb_ (by decide)) rfl))
  unfold DD
  rw [if_pos (by omega)]
  omega
theorem subQ0 {r : Rat} {S : Sto} {P : PV} : wSub (Qv r) (.int 0) S P = P (.int r.num) S := sub_tup0
theorem subQ1 {r : Rat} {S : Sto} {P : PV} : wSub (Qv r) (.int 1) S P = P (.int r.den) S := sub_tup1
section
variable {X Y : Nat → Rat → Prop} {K L : Nat} (c : Cst X Y K L)
include c
theorem lcost_ok (k : Nat) {come room : Rat} {j m : Nat} (hr : X j room) (hk : X m come) (hK : j + m ≤ K) {S : Sto} {P : PV} {E : PX} (h : P (Qv (costR room come)) S) : call Hd.T (k + 3) "_law_cost" [Qv come, Qv room] S P E := by
  refine call_def (d := Hd.f_l_cost) rfl rfl ?_
  unfold Hd.f_l_cost
  have b1 : BQ 2000 room := c.x.big (by omega) hr
  have b2 : BQ 2000 come := c.x.big (by omega) hk
  have hs : X (j + m) (room + -come) := c.x.add hr (c.neg hk)
  have b3 : BQ 2000 (room + -come) := c.x.big hK hs
  unfold costR at h
  walk_at "am"
  refine lless_ok lq _ _ _ b1 b2 (by decide) ?_
  walk_at "am"
  by_cases hl : room < come
  · rw [if_pos hl] at h ⊢
    exact fin_keep h
  rw [if_neg hl] at h ⊢
  simp only [subQ0, subQ1, wNeg_int, Qneg]
  refine lsum_ok lq _ room (-come) b1 (c.x.big (by omega) (c.neg hk)) (by decide) ?_
  have e : room + -come = room - come := (Rat.sub_eq_add_neg _ _).symm
  rw [e] at b3 ⊢
  simp only [subQ0, subQ1]
  have hd := (room - come).den_pos
  refine ⟨b3.1.cmul b3.1 (by decide), b3.2.cmul b3.2 (by decide), ?_⟩
  refine low_ok lq _ _ _ (Int.mul_pos (by omega) (by omega)) (b3.2.mul b3.2) (by decide) ?_
  rw [mul_dv]
  exact fin_keep h
omit c in
/-- what the law knows of the farthest, up to e -/
theorem far_is {D : Nat → Rat} {b e : Nat} {p : Rat} {s : Nat} (h : Best D b e p s) {f : Int} (hf : (f = -1 ∧ ∀ t, b < t → t ≤ e → D t ≠ p) ∨ ∃ t : Nat, f = t ∧ b < t ∧ t ≤ e ∧ D t = p ∧ ∀ t', t < t' → t' ≤ e → D t' ≠ p) : f = s := by
  rcases hf with ⟨_, h2⟩ | ⟨t, rfl, h1, h2, h3, h4⟩
  · exact absurd h.at_ (h2 s h.lo h.hi)
  · by_cases z : t < s
    · exact absurd h.at_ (h4 s z h.hi)
    · by_cases z2 : s < t
      · have := h.last t z2 h2
        rw [h3] at this
        exact absurd this Rat.lt_irrefl
      · have : t = s := by omega
        rw [this]
theorem lfar_ok (k : Nat) (qs : List Rat) (g room : Rat) {R : Nat} (hq : ∀ q ∈ qs, X 1 q) (hg : X 1 g) (hr : X R room) (hK : 2 * qs.length + 1 + R ≤ K) (hL : qs.length + 2 ≤ L) (hl : qs.length ≤ 1000) {pr : Nat → Rat} {ss : Nat → Nat} (hT : Tbl g room qs qs.length pr ss) (hY : ∀ b, b ≤ qs.length → Y (qs.length - b + 1) (pr b)) {b : Nat} (hb : b < qs.length) {u v : Va} {S : Sto} {P : PV} {E : PX} (hu : LV S u (wv (qs.length + 1) pr)) (hv : LV S v (qs.map Qv))
    (h : P (.int (ss b)) S) : call Hd.T (k + 4) "_law_farthest" [u, .int b, v, Qv g, Qv room] S P E := by
  refine call_def (d := Hd.f_l_farthest) rfl rfl ?_
  unfold Hd.f_l_farthest
  obtain ⟨e, hU, hB⟩ := hT.way b (by omega) hb
  obtain ⟨n, hn⟩ : ∃ n, n = qs.length := ⟨_, rfl⟩
  have xq : ∀ {t}, t ≤ n → X (2 * n + 1) (cQ g qs b t) := fun {t} ht => c.x.up (c.cq hg hq (by omega)) (by omega)
  have hget : ∀ {t q}, qs[t]? = some q → (qs.map Qv)[t]? = some (Qv q) := fun h => by rw [List.getElem?_map, h]; rfl
  obtain ⟨q0, hq0⟩ : ∃ q0, qs[b]? = some q0 := ⟨qs[b], by simp [hb]⟩
  rw [← hn] at hu hK hL hl hY
  walk_at "am"
  refine hv.len ?_
  rw [List.length_map, ← hn]
  refine hv.sub (L2.atI_nat (hget hq0)) ?_
  have hfit := hU.fit
  have hfar := hU.far
  have hlo := hU.lo
  have hhi := hU.hi
  rw [← hn] at hfar hhi
  obtain ⟨D, hD⟩ : ∃ D, D = dueR g room qs pr b := ⟨_, rfl⟩
  rw [← hD] at hB
  refine seq_cut (call_mono _ _) (fun Γ S' => S = S' ∧ ∃ o7 o8 o9, Γ = [some u, some (.int b), some v, some (Qv g), some (Qv room), some (.int (ss b)), some (.int n), o7, o8, o9]) ?_ ?_
  · walk_at "am"
    refine ⟨⟨by omega, by omega, by omega, by omega⟩, ?_⟩
    refine for_ix (call_mono _ _) (fun j Γ S' => S = S' ∧ b + j ≤ e ∧ ∃ (f : Int) (o8 o9 : Option Va), ((f = -1 ∧ ∀ t, b < t → t ≤ b + j → D t ≠ pr b) ∨ ∃ t : Nat, f = t ∧ b < t ∧ t ≤ b + j ∧ D t = pr b ∧ ∀ t', t < t' → t' ≤ b + j → D t' ≠ pr b) ∧ Γ = [some u, some (.int b), some v, some (Qv g), some (Qv room), some (.int f), some (.int n), some (Qv (cQ g qs b (b + max j 1))), o8, o9]) ?_ ?_ ?_
    · exact ⟨rfl, by omega, -1, _, _, .inl ⟨rfl, fun t h1 h2 => by omega⟩, by rw [show b + max 0 1 = b + 1 from rfl, cQ_one hq0]⟩
    · rintro j x Γ S' hx ⟨rfl, hje, f, o8, o9, hf, rfl⟩
      obtain ⟨hj, rfl⟩ := rangeV_get hx
      refine ⟨_, rfl, ?_⟩
      have et : ((b : Int) + 1 + (j : Nat)) = ((b + (j + 1) : Nat) : Int) := by push_cast; omega
      have hjn : b + (j + 1) ≤ n := by omega
      rw [et]
      refine seq_cut (call_mono _ _) (fun Γ S' => S = S' ∧ b + (j + 1) ≤ e ∧ Γ = [some u, some (.int b), some v, some (Qv g), some (Qv room), some (.int f), some (.int n), some (Qv (cQ g qs b (b + (j + 1)))), some (.int (b + (j + 1) : Nat)), o9]) ?_ ?_
      · walk_at "am"
        by_cases j0 : j = 0
        · subst j0
          rw [if_neg (by omega)]
          first | exact ⟨rfl, by omega, rfl⟩ | exact ⟨by omega, rfl⟩
        · rw [if_pos (by omega)]
          have hbj : b + j < qs.length := by omega
          obtain ⟨q1, hq1⟩ : ∃ q1, qs[b + j]? = some q1 := ⟨qs[b + j], by simp [hbj]⟩
          rw [show ((b + (j + 1) : Nat) : Int) - 1 = ((b + j : Nat) : Int) by push_cast; omega, show max j 1 = j by omega]
          refine hv.sub (L2.atI_nat (hget hq1)) ?_
          have x1 := hq q1 (List.mem_of_getElem? hq1)
          refine lsum_ok lq _ _ _ (c.x.big (by omega) hg) (c.x.big (by omega) x1) (by decide) ?_
          refine lsum_ok lq _ _ _ (c.x.big (by omega) (xq (t := b + j) (by omega))) (c.x.big (k := 2) (by omega) (c.x.add hg x1)) (by decide) ?_
          rw [← cQ_next (by omega) hq1]
          refine lless_ok lq _ _ _ (c.x.big (by omega) hr) (c.x.big (by omega) (xq (t := b + j + 1) (by omega))) (by decide) ?_
          refine ⟨_, rfl, ?_⟩
          by_cases hlt : room < cQ g qs b (b + j + 1)
          · rw [if_pos (decide_eq_true hlt)]
            have he : b + j = e := by
              by_cases z : b + j + 1 ≤ e
              · exact absurd hlt (hfit _ (by omega) z)
              · omega
            rw [he] at hf
            rw [far_is hB hf]
            exact fin_keep h
          · rw [if_neg (by simp [hlt])]
            refine ⟨rfl, ?_, rfl⟩
            rcases hfar with z | z
            · omega
            · by_cases z2 : b + j = e
              · rw [← z2] at z; exact absurd z hlt
              · omega
      rintro Γ S' ⟨rfl, hje2, rfl⟩
      refine seq_to (call_mono _ _) [some u, some (.int b), some v, some (Qv g), some (Qv room), some (.int f), some (.int n), some (Qv (cQ g qs b (b + (j + 1)))), some (.int (b + (j + 1) : Nat)), some (Qv 0)] S (by walk_at "am"; first | exact ⟨rfl, rfl⟩ | rfl) ?_
      refine seq_to (call_mono _ _) [some u, some (.int b), some v, some (Qv g), some (Qv room), some (.int f), some (.int n), some (Qv (cQ g qs b (b + (j + 1)))), some (.int (b + (j + 1) : Nat)), some (Qv (D (b + (j + 1))))] S ?_ ?_
      · walk_at "am"
        rw [hD]
        unfold dueR
        by_cases ht : b + (j + 1) < n
        · rw [if_pos (by omega), if_pos (by omega)]
          refine lcost_ok c _ hr (xq (t := b + (j + 1)) (by omega)) (by omega) ?_
          refine hu.sub (L2.atI_nat (wv_get (by omega))) ?_
          refine lsum_ok lq _ _ _ (c.y.big (by omega) (c.cost hr (xq (t := b + (j + 1)) (by omega)) (by omega))) (c.y.big (by omega) (hY (b + (j + 1)) (by omega))) (by decide) ?_
          first | exact ⟨rfl, rfl⟩ | rfl
        · rw [if_neg (by omega), if_neg (by omega)]
      have hYD : Y (n - b + 1) (D (b + (j + 1))) := by
        rw [hD]
        unfold dueR
        split
        · exact c.y.up (c.y.add (c.cost hr (xq (t := b + (j + 1)) (by omega)) (by omega)) (hY (b + (j + 1)) (by omega))) (by omega)
        · exact c.y.up c.y.zero (by omega)
      have hYb := hY b (by omega)
      have hmx : max (j + 1) 1 = j + 1 := by omega
      walk_at "am"
      refine hu.sub (L2.atI_nat (wv_get (by omega))) ?_
      refine lless_ok lq _ _ _ (c.y.big (by omega) hYD) (c.y.big (by omega) hYb) (by decide) ?_
      rw [decide_eq_false (hB.least _ (by omega) (by omega))]
      refine ⟨_, rfl, ?_⟩
      rw [if_neg (by decide)]
      walk_at "am"
      refine hu.sub (L2.atI_nat (wv_get (by omega))) ?_
      rw [eqQ]
      refine ⟨_, rfl, ?_⟩
      by_cases heq : D (b + (j + 1)) = pr b
      · rw [if_pos (decide_eq_true heq), hmx]
        refine ⟨rfl, hje2, _, _, _, .inr ⟨b + (j + 1), rfl, by omega, Nat.le_refl _, heq, fun t h1 h2 => by omega⟩, rfl⟩
      · rw [if_neg (by simp [heq]), hmx]
        refine ⟨rfl, hje2, _, _, _, ?_, rfl⟩
        rcases hf with ⟨z1, z2⟩ | ⟨t, z1, z2, z3, z4, z5⟩
        · refine .inl ⟨z1, fun t h1 h2 => ?_⟩
          by_cases z : t ≤ b + j
          · exact z2 t h1 z
          · obtain rfl : t = b + (j + 1) := by omega
            exact heq
        · refine .inr ⟨t, z1, z2, by omega, z4, fun t' h1 h2 => ?_⟩
          by_cases z : t' ≤ b + j
          · exact z5 t' h1 z
          · obtain rfl : t' = b + (j + 1) := by omega
            exact heq
    · rintro Γ S' ⟨rfl, hje, f, o8, o9, hf, rfl⟩
      rw [rangeV_len, show b + ((n : Int) + 1 - ((b : Int) + 1)).toNat = n by omega] at hf hje
      have he : n = e := by omega
      rw [he] at hf
      rw [far_is hB hf]
      exact ⟨rfl, _, _, _, rfl⟩
  rintro Γ S' ⟨rfl, o7, o8, o9, rfl⟩
  walk_at "am"
  exact fin_keep h
theorem told_ok (k : Nat) (qs : List Rat) (g room : Rat) {R : Nat} (hq : ∀ q ∈ qs, X 1 q) (hg : X 1 g) (hr : X R room) (hK : 2 * qs.length + 1 + R ≤ K) (hL : qs.length + 2 ≤ L) (hl : qs.length ≤ 1000) {v : Va} {S : Sto} {P : PV} {E : PX} (hv : LV S v (qs.map Qv))
    (h : ∀ pr ss M, Tbl g room qs qs.length pr ss → (∀ b, b ≤ qs.length → Y (qs.length - b + 1) (pr b)) → P (.loc (S.length + 1)) (S ++ .lst (qs.map Qv) :: .lst (wv (qs.length + 1) pr) :: M)) : call Hd.T (k + 7) "_law_told" [v, Qv g, Qv room] S P E := by
  refine call_def (d := Hd.f_l_told) rfl rfl ?_
  unfold Hd.f_l_told
  walk_at "am"
  refine hv.list ?_
  refine prices_ok c _ qs g room hq hg hr hK hL hl LV.here fun pr ss hT hY => ?_
  walk_at "am"
  have h := h pr ss [.lst (nw (qs.length + 1) ss)] hT hY
  obtain ⟨w1, w2⟩ := datsQ qs
  have hv3 := hv.more [.lst (qs.map Qv), .lst (wv (qs.length + 1) pr), .lst (nw (qs.length + 1) ss)]
  have hp3 : LV (S ++ [.lst (qs.map Qv), .lst (wv (qs.length + 1) pr), .lst (nw (qs.length + 1) ss)]) (.loc (S.length + 1)) (wv (qs.length + 1) pr) := LV.at rfl
  refine ne_by (d := .lst (qs.map Qv)) (LV.dv LV.here w1) (hv3.dv w1) w1 (Nat.le_trans w2 (by decide)) ?_
  refine ⟨_, rfl, ?_⟩
  rw [if_neg (by decide)]
  refine ⟨_, hp3.ty, ?_⟩
  rw [if_neg (by decide)]
  refine ⟨_, by rw [sg_pl]; rfl, ?_⟩
  simp only [lenO]
  refine hv3.len ?_
  rw [wv_len, List.length_map]
  walk_at "am"
  rw [if_pos (by push_cast; rfl)]
  refine seq_cut (call_mono _ _) (fun Γ S' => S' = S ++ [.lst (qs.map Qv), .lst (wv (qs.length + 1) pr), .lst (nw (qs.length + 1) ss)] ∧ ∃ a, Γ = [some v, some (Qv g), some (Qv room), some (.loc S.length), some (.loc (S.length + 1)), a]) ?_ ?_
  · walk_at "am"
    refine for_ix (call_mono _ _) (fun i Γ S' => S' = S ++ [.lst (qs.map Qv), .lst (wv (qs.length + 1) pr), .lst (nw (qs.length + 1) ss)] ∧ ∃ a, Γ = [some v, some (Qv g), some (Qv room), some (.loc S.length), some (.loc (S.length + 1)), a]) ?_ ?_ ?_
    · exact ⟨rfl, none, rfl⟩
    · rintro i x Γ S' hx ⟨rfl, a, rfl⟩
      have hi := lt_of_get hx
      rw [wv_len] at hi
      rw [wv_get hi] at hx
      cases hx
      refine ⟨_, rfl, ?_⟩
      walk_at "am"
      refine lfrac_ok lq rfl _ (pr i) (c.y.big (by omega) (hY i (by omega))) (by decide) ?_
      walk_at "am"
      exact ⟨_, rfl⟩
    · rintro Γ S' ⟨rfl, a, rfl⟩
      exact ⟨rfl, a, rfl⟩
  rintro Γ S' ⟨rfl, a, rfl⟩
  walk_at "am"
  exact fin_keep h
end
theorem room_ok (k : Nat) (c way bottom : Int) (hc : CB c) (hw : WB way bottom) (qs : List Rat) (g : Rat) (hq : ∀ q ∈ qs, XX way bottom 1 q) (hg : XX way bottom 1 g) (hl : qs.length ≤ 1000) {v : Va} {S : Sto} {P : PV} {E : PX} (hv : LV S v (qs.map Qv)) (h : ∀ q : Rat, XX way bottom 20 q → P (Qv q) S) : call Hd.T (k + 3) "_law_room_by" [.int c, v, Qv g, .int way, .int bottom] S P E := by
  refine call_def (d := Hd.f_l_room_by) rfl rfl ?_
  unfold Hd.f_l_room_by
  have f9 := fm (c.fdiv 9) (10 ^ 9) (by decide)
  have f3 := fm c 3 (by decide)
  have cs := cst hw.pos.1 hw.pos.2
  walk_at "am"
  split
  · refine ⟨d _ (by decide) (by decide), c9, by decide, ?_⟩
    rw [← Qint]
    exact fin_keep (h _ (cs.x.up (hw.int (by omega)) (by decide)))
  walk_at "am"
  split
  · refine ⟨d _ (by decide) (by decide), ?_⟩
    exact width_ok _ _ way bottom (hc.fd (by decide)) hw fun q hq => fin_keep (h _ (cs.x.up hq (by decide)))
  walk_at "am"
  refine ⟨d _ (by decide) (by decide), ?_⟩
  refine hv.len ?_
  rw [List.length_map]
  walk_at "am"
  refine ⟨by omega, ?_⟩
  have fb := fm (c.fdiv 9) ((qs.length : Int) + 1) (by omega)
  obtain ⟨b, hb⟩ := Int.eq_ofNat_of_zero_le fb.1
  obtain ⟨t3, ht3⟩ := Int.eq_ofNat_of_zero_le f3.1
  rw [hb, e0]
  refine seq_cut (call_mono _ _) (fun Γ S' => ∃ r w N, S' = S ++ N ∧ XX way bottom 17 r ∧ Γ = [some (.int c), some v, some (Qv g), some (.int way), some (.int bottom), some (.int b), some (Qv r), w]) ?_ ?_
  · walk_at "am"
    have hsl : ∀ {G : PV}, G (.loc S.length) (S ++ [.lst ((((qs.drop b).take (2 + t3))).map Qv)]) → wSlice v (some (b : Int)) (some ((b : Int) + 2 + c.fmod 3)) S G := fun {G} hG => by
      have e : cutA (qs.map Qv) (some (b : Int)) (some ((b : Int) + 2 + c.fmod 3)) = ((qs.drop b).take (2 + t3)).map Qv := by
        rw [show (b : Int) + 2 + c.fmod 3 = ((b + 2 + t3 : Nat) : Int) by push_cast; omega, cut_mid (by rw [List.length_map]; omega), show b + 2 + t3 - b = 2 + t3 by omega, List.map_take, List.map_drop]
      rw [← e] at hG
      rcases hv with rfl | ⟨j, rfl, hj⟩
      · exact hG
      · exact ⟨_, hj, hG⟩
    refine hsl ?_
    have hsm : ∀ q ∈ (qs.drop b).take (2 + t3), XX way bottom 1 q := fun q hq' => hq q (List.mem_of_mem_drop (List.mem_of_mem_take hq'))
    have hsl2 : ((qs.drop b).take (2 + t3)).length ≤ 4 := by rw [List.length_take]; omega
    generalize (qs.drop b).take (2 + t3) = ps at *
    refine LV.seq0 LV.here fun G hG => ⟨hG _ ⟨[], by simp⟩, ?_⟩
    refine for_ix (call_mono _ _) (fun i Γ S' => S' = S ++ [.lst (ps.map Qv)] ∧ ∃ r w, XX way bottom (4 * i + 1) r ∧ Γ = [some (.int c), some v, some (Qv g), some (.int way), some (.int bottom), some (.int b), some (Qv r), w]) ?_ ?_ ?_
    · exact ⟨rfl, 0, none, cs.x.up cs.x.zero (by decide), rfl⟩
    · rintro i x Γ S' hx ⟨rfl, r, w, hr, rfl⟩
      rw [List.getElem?_map] at hx
      obtain ⟨q, hqi, rfl⟩ := Option.map_eq_some_iff.mp hx
      have hi := lt_of_get hqi
      have hqX := hsm q (List.mem_of_getElem? hqi)
      refine ⟨_, rfl, ?_⟩
      walk_at "am"
      refine lsum_ok lq _ g q (cs.x.big (by decide) hg) (cs.x.big (by decide) hqX) (by decide) ?_
      refine lsum_ok lq _ r (g + q) (cs.x.big (by omega) hr) (cs.x.big (k := 2) (by decide) (cs.x.add hg hqX)) (by decide) ?_
      first | exact ⟨rfl, ⟨hG _ ⟨[], by simp⟩, rfl, _, _, cs.x.up (cs.x.add hr (cs.x.add hg hqX)) (by omega), rfl⟩⟩ | exact ⟨hG _ ⟨[], by simp⟩, rfl, _, _, cs.x.up (cs.x.add hr (cs.x.add hg hqX)) (by omega), rfl⟩
    · rintro Γ S' ⟨rfl, r, w, hr, rfl⟩
      rw [List.length_map] at hr
      exact ⟨r, w, _, rfl, cs.x.up hr (by omega), rfl⟩
  rintro Γ S' ⟨r, w, N, rfl, hr, rfl⟩
  walk_at "am"
  simp only [subQ0, subQ1, wNeg_int, Qneg]
  refine lsum_ok lq _ r (-g) (cs.x.big (by decide) hr) (cs.x.big (by decide) (cs.neg hg)) (by decide) ?_
  exact fin_val rfl (h _ (cs.x.up (cs.x.add hr (cs.neg hg)) (by decide)))
theorem widths_ok (k : Nat) (ns : List Int) (hl : ns.length ≤ 63) (hb : ∀ z ∈ ns, Builtin.Int.intBits z ≤ 1048576) (first way bottom : Int) (hw : WB way bottom) {S : Sto} {P : PV} {E : PX} (h : ∀ qs : List Rat, qs.length ≤ 60 → (∀ q ∈ qs, XX way bottom 1 q) → P (.lst (qs.map Qv)) S) : call Hd.T (k + 3) "_law_widths_by" [.scr ns, .int first, .int way, .int bottom] S P E := by
  refine call_def (d := Hd.f_l_widths_by) rfl rfl ?_
  unfold Hd.f_l_widths_by
  have f8 := fm first 8 (by decide)
  have f9 := fm (first.fdiv 576) 9 (by decide)
  have f31 := fm (first.fdiv 1728) 31 (by decide)
  refine seq_to (call_mono _ _) [some (.scr ns), some (.int first), some (.int way), some (.int bottom), some (.int (first.fmod 8)), none, none] S (by walk_at "am") ?_
  refine seq_cut (call_mono _ _) (fun Γ S' => S = S' ∧ ∃ m : Int, 0 ≤ m ∧ m ≤ 16 ∧ Γ = [some (.scr ns), some (.int first), some (.int way), some (.int bottom), some (.int m), none, none]) ?_ ?_
  · walk_at "am"
    refine ⟨d _ (by decide) (by decide), ?_⟩
    split
    · refine ⟨d _ (by decide) (by decide), ?_⟩
      first | exact ⟨rfl, ⟨_, by omega, by omega, rfl⟩⟩ | exact ⟨_, by omega, by omega, rfl⟩
    · first | exact ⟨rfl, ⟨_, by omega, by omega, rfl⟩⟩ | exact ⟨_, by omega, by omega, rfl⟩
  rintro Γ S' ⟨rfl, m0, m1, m2, rfl⟩
  refine seq_cut (call_mono _ _) (fun Γ S' => S = S' ∧ ∃ m : Nat, m ≤ 60 ∧ Γ = [some (.scr ns), some (.int first), some (.int way), some (.int bottom), some (.int m), none, none]) ?_ ?_
  · walk_at "am"
    refine ⟨d _ (by decide) (by decide), ?_⟩
    split
    · refine ⟨d _ (by decide) (by decide), ?_⟩
      obtain ⟨m, hm⟩ := Int.eq_ofNat_of_zero_le (show 0 ≤ 30 + (first.fdiv 1728).fmod 31 by omega)
      rw [hm]
      first | exact ⟨rfl, ⟨m, by omega, rfl⟩⟩ | exact ⟨m, by omega, rfl⟩
    · obtain ⟨m, rfl⟩ := Int.eq_ofNat_of_zero_le m1
      first | exact ⟨rfl, ⟨m, by omega, rfl⟩⟩ | exact ⟨m, by omega, rfl⟩
  rintro Γ S' ⟨rfl, m, hm, rfl⟩
  refine seq_cut (call_mono _ _) (fun Γ S' => ∃ qs : List Rat, qs.length = m ∧ (∀ q ∈ qs, XX way bottom 1 q) ∧ S' = S ++ [.lst (qs.map Qv)] ∧ Γ = [some (.scr ns), some (.int first), some (.int way), some (.int bottom), some (.int m), some (.loc S.length), none]) ?_ ?_
  · walk_at "am"
    refine ⟨by omega, by omega, ?_⟩
    refine cpL_inv (call_mono _ _) (fun i acc => ∃ qs : List Rat, qs.length = i ∧ (∀ q ∈ qs, XX way bottom 1 q) ∧ acc = qs.map Qv) (fun acc => trivial) ⟨[], rfl, by simp, rfl⟩ ?_ ?_
    · rintro i x acc hx ⟨qs, h1, h2, rfl⟩
      obtain ⟨hi, rfl⟩ := rangeV_get hx
      refine ⟨_, rfl, ?_⟩
      walk_at "am"
      refine cellat_ok lq ns hl hb _ _ (by omega) (by omega) fun c hc => ?_
      refine width_ok _ c way bottom hc hw fun q hq => ?_
      refine ⟨rfl, by rw [List.length_map]; omega, qs ++ [q], by rw [List.length_append, h1]; rfl, fun x hx => ?_, by simp⟩
      rcases List.mem_append.mp hx with z | z
      · exact h2 x z
      · rw [List.mem_singleton.mp z]; exact hq
    rintro acc ⟨qs, h1, h2, rfl⟩
    rw [rangeV_len, show ((m : Nat) : Int).toNat = m by omega] at h1
    exact ⟨qs, h1, h2, rfl, rfl⟩
  rintro Γ S' ⟨qs, hn, hq, rfl, rfl⟩
  have ht1 : cutA (qs.map Qv) none (some 1) = (qs.take 1).map Qv := by
    rw [show (some (1 : Int)) = some ((1 : Nat) : Int) from rfl, cut_to, List.map_take]
  have hq1 : ∀ q ∈ qs.take 1, XX way bottom 1 q := fun q hq' => hq q (List.mem_of_mem_take hq')
  have hl1 : (qs.take 1).length ≤ 1 := by rw [List.length_take]; omega
  walk_at "am"
  refine ⟨d _ (by decide) (by decide), ?_⟩
  rw [ht1]
  split
  · rw [Int.toNat_natCast]
    have hfl : (List.replicate m ((qs.take 1).map Qv)).flatten = ((List.replicate m (qs.take 1)).flatten).map Qv := by
      rw [List.map_flatten, List.map_replicate]
    have hfn : ((List.replicate m (qs.take 1)).flatten).length ≤ 60 := by
      rw [List.length_flatten, List.map_replicate, List.sum_replicate_nat]
      exact Nat.le_trans (Nat.mul_le_mul_left m hl1) (by omega)
    refine ⟨by omega, by omega, ?_, ?_⟩
    · rw [List.length_map]
      exact Nat.le_trans (Nat.mul_le_mul_right m hl1) (by omega)
    · rw [hfl]
      refine fin_lst (i := 2) rfl (plsQ _) (h _ hfn fun q hq' => ?_)
      obtain ⟨l, h1, h2⟩ := List.mem_flatten.mp hq'
      rw [List.eq_of_mem_replicate h1] at h2
      exact hq1 q h2
  walk_at "am"
  refine ⟨d _ (by decide) (by decide), ?_⟩
  have hfin : fin S P (.loc S.length) (S ++ [.lst (qs.map Qv)]) := fin_lst0 rfl (plsQ _) (h qs (by omega) hq)
  split
  · split
    · have hfl : qs.map Qv ++ ((qs.map Qv).reverse ++ (qs.take 1).map Qv) = (qs ++ (qs.reverse ++ qs.take 1)).map Qv := by simp
      refine ⟨by rw [List.length_reverse, List.length_map]; omega, by rw [List.length_reverse, List.length_map, List.length_map]; omega, ?_⟩
      rw [hfl]
      refine fin_lst (i := 4) rfl (plsQ _) (h _ (by simp only [List.length_append, List.length_reverse]; omega) fun q hq' => ?_)
      rcases List.mem_append.mp hq' with z | z
      · exact hq q z
      rcases List.mem_append.mp z with z | z
      · exact hq q (List.mem_reverse.mp z)
      · exact hq1 q z
    · exact hfin
  · exact hfin
theorem any_neg (r : List Nat) : ((pds (ivs r)).any fun z => PyData.eqv z (.int (-1))) = false := by
  induction r with
  | nil => rfl
  | cons a r ih =>
    show (PyData.eqv (.int (a : Nat)) (.int (-1)) || (pds (ivs r)).any fun z => PyData.eqv z (.int (-1))) = false
    rw [ih]
    have e : PyData.eqv (.int (a : Nat)) (.int (-1)) = false := by
      have : ¬ ((a : Nat) : Int) = -1 := by omega
      simp [PyData.eqv, this]
    rw [e]
    rfl
theorem isin_neg {S : Sto} {P : PV} {v : Va} {r : List Nat} (h : LV S v (ivs r)) (hp : P (.bl false) S) : wCmp .isin (.int (-1)) v S P := by
  have main : ∃ d ds, DV S (.int (-1)) d ∧ DV S v (.list ds) ∧ SeqAt.shaped d = true ∧ SeqAt.shaped (.list ds) = true ∧ P (.bl (ds.any fun z => PyData.eqv z d)) S :=
    ⟨.int (-1), pds (ivs r), .int _, h.dv (dats_ivs r), pd_shaped (v := .int (-1)) rfl (Nat.zero_le _), pd_shaped (v := .lst (ivs r)) (dats_ivs r) (Nat.le_trans (dep_ivs r) (by decide)), by rw [any_neg]; exact hp⟩
  rcases h with rfl | ⟨k, rfl, hk⟩
  · simp only [wCmp]; exact main
  · simp only [wCmp, inO]
    refine ⟨_, hk, ?_⟩
    simp only [Bool.false_eq_true, if_false]
    exact main
theorem go_len {ss : Nat → Nat} {n : Nat} : ∀ f b, (go ss n f b).length ≤ f
  | 0, b => Nat.le_refl _
  | f + 1, b => by
    show (if b < n then _ else []).length ≤ f + 1
    split
    · rw [List.length_cons]; exact Nat.succ_le_succ (go_len f _)
    · exact Nat.zero_le _
def at10 (Γ : AM.Env) : Nat := match Γ with
  | [_, _, _, _, _, _, _, _, _, _, some (.int b), _, _, _, _, _] => b.toNat
  | _ => 0
theorem at10_int {a0 a1 a2 a3 a4 a5 a6 a7 a8 a9 b1 b2 b3 b4 b5 : Option Va} {b : Nat} : at10 [a0, a1, a2, a3, a4, a5, a6, a7, a8, a9, some (.int b), b1, b2, b3, b4, b5] = b := rfl
theorem law_any (ns : List Int) (hl : ns.length ≤ 63) (hb : ∀ z ∈ ns, Builtin.Int.intBits z ≤ 1048576) {S : Sto} {P : PV} {E : PX} (h : P (.bl true) S) : call Hd.T 12 "law" [.scr ns] S P E := by
  refine call_def (d := Hd.f_law) rfl rfl ?_
  unfold Hd.f_law
  refine seq_cut (call_mono _ _) (fun Γ S' => S = S' ∧ ∃ first, CB first ∧ Γ = [some (.scr ns), some (.int first), none, none, none, none, none, none, none, none, none, none, none, none, none, none]) ?_ ?_
  · walk_at "am"
    refine cellat_ok lq ns hl hb _ 0 (by decide) (by decide) fun c hc => ?_
    first | exact ⟨rfl, ⟨c, hc, rfl⟩⟩ | exact ⟨c, hc, rfl⟩
  rintro Γ S' ⟨rfl, first, hfi, rfl⟩
  have f3 := fm (first.fdiv 8) 3 (by decide)
  refine seq_to (call_mono _ _) [some (.scr ns), some (.int first), some (.int ((first.fdiv 8).fmod 3)), none, none, none, none, none, none, none, none, none, none, none, none, none] S (by walk_at "am"; exact d _ (by decide) (by decide)) ?_
  refine seq_cut (call_mono _ _) (fun Γ S' => S = S' ∧ ∃ way : Int, 0 ≤ way ∧ way < 3 ∧ Γ = [some (.scr ns), some (.int first), some (.int way), none, none, none, none, none, none, none, none, none, none, none, none, none]) ?_ ?_
  · walk_at "am"
    refine ⟨d _ (by decide) (by decide), ?_⟩
    split
    · first | exact ⟨rfl, ⟨0, by decide, by decide, rfl⟩⟩ | exact ⟨0, by decide, by decide, rfl⟩
    · first | exact ⟨rfl, ⟨_, f3.1, f3.2, rfl⟩⟩ | exact ⟨_, f3.1, f3.2, rfl⟩
  rintro Γ S' ⟨rfl, way, w1, w2, rfl⟩
  refine seq_cut (call_mono _ _) (fun Γ S' => S = S' ∧ ∃ bottom : Int, 1 ≤ bottom ∧ bottom ≤ 10 ^ 9 ∧ Γ = [some (.scr ns), some (.int first), some (.int way), some (.int bottom), none, none, none, none, none, none, none, none, none, none, none, none]) ?_ ?_
  · walk_at "am"
    refine cellat_ok lq ns hl hb _ 3 (by decide) (by decide) fun c hc => ?_
    have f9 := fm c (10 ^ 9) (by decide)
    walk_at "am"
    exact ⟨c9, by decide, _, by omega, by omega, rfl⟩
  rintro Γ S' ⟨rfl, bottom, b1, b2, rfl⟩
  have hw : WB way bottom := ⟨⟨w1, w2⟩, b1, b2⟩
  have cs := cst hw.pos.1 hw.pos.2
  refine seq_cut (call_mono _ _) (fun Γ S' => S = S' ∧ ∃ qs : List Rat, qs.length ≤ 60 ∧ (∀ q ∈ qs, XX way bottom 1 q) ∧ Γ = [some (.scr ns), some (.int first), some (.int way), some (.int bottom), some (.lst (qs.map Qv)), none, none, none, none, none, none, none, none, none, none, none]) ?_ ?_
  · walk_at "am"
    refine widths_ok _ ns hl hb first way bottom hw fun qs h1 h2 => ?_
    first | exact ⟨rfl, ⟨qs, h1, h2, rfl⟩⟩ | exact ⟨qs, h1, h2, rfl⟩
  rintro Γ S' ⟨rfl, qs, hn, hq, rfl⟩
  walk_at "am"
  rw [List.length_map, e0]
  refine seq_cut (call_mono _ _) (fun Γ S' => S = S' ∧ ∃ g : Rat, XX way bottom 1 g ∧ Γ = [some (.scr ns), some (.int first), some (.int way), some (.int bottom), some (.lst (qs.map Qv)), some (.int qs.length), some (Qv g), none, none, none, none, none, none, none, none, none]) ?_ ?_
  · walk_at "am"
    refine cellat_ok lq ns hl hb _ 1 (by decide) (by decide) fun c hc => ?_
    walk_at "am"
    split
    · refine cellat_ok lq ns hl hb _ 1 (by decide) (by decide) fun c hc => ?_
      refine ⟨d _ (by decide) (by decide), ?_⟩
      refine width_ok _ _ way bottom (hc.fd (by decide)) hw fun q hq => ?_
      first | exact ⟨rfl, ⟨q, hq, rfl⟩⟩ | exact ⟨q, hq, rfl⟩
    · first | exact ⟨rfl, ⟨0, cs.x.zero, rfl⟩⟩ | exact ⟨0, cs.x.zero, rfl⟩
  rintro Γ S' ⟨rfl, g, hg, rfl⟩
  refine seq_cut (call_mono _ _) (fun Γ S' => S = S' ∧ ∃ room : Rat, XX way bottom 20 room ∧ Γ = [some (.scr ns), some (.int first), some (.int way), some (.int bottom), some (.lst (qs.map Qv)), some (.int qs.length), some (Qv g), some (Qv room), none, none, none, none, none, none, none, none]) ?_ ?_
  · walk_at "am"
    refine cellat_ok lq ns hl hb _ 2 (by decide) (by decide) fun c hc => ?_
    refine room_ok _ c way bottom hc hw qs g hq hg (by omega) (.inl rfl) fun r hr => ?_
    first | exact ⟨rfl, ⟨r, hr, rfl⟩⟩ | exact ⟨r, hr, rfl⟩
  rintro Γ S' ⟨rfl, room, hr, rfl⟩
  obtain ⟨n, hnn⟩ : ∃ n, n = qs.length := ⟨_, rfl⟩
  -- a shorter row first
  refine seq_cut (call_mono _ _) (fun Γ S' => (∃ N, S' = S ++ N) ∧ Γ = [some (.scr ns), some (.int first), some (.int way), some (.int bottom), some (.lst (qs.map Qv)), some (.int qs.length), some (Qv g), some (Qv room), none, none, none, none, none, none, none, none]) ?_ ?_
  · walk_at "am"
    refine ⟨d _ (by decide) (by decide), ?_⟩
    obtain ⟨m, hm⟩ : ∃ m : Nat, ((qs.length : Nat) : Int).fdiv 2 = (m : Nat) := Int.eq_ofNat_of_zero_le (by rw [Int.fdiv_eq_ediv_of_nonneg _ (by decide)]; omega)
    rw [hm, cut_to, ← List.map_take]
    have hlt : (qs.take m).length ≤ 60 := by rw [List.length_take]; omega
    refine told_ok cs _ (qs.take m) g room (fun q hq' => hq q (List.mem_of_mem_take hq')) hg hr (by omega) (by omega) (by omega) LV.here fun pr ss M hT hY => ?_
    refine ⟨⟨_, LV.at (i := 1) rfl⟩, _, by rw [sg_pl]; rfl, by rw [wv_len]; omega, ?_⟩
    rw [ss_pl]
    exact ⟨_, List.append_assoc _ _ _⟩
  rintro Γ S' ⟨⟨N0, rfl⟩, rfl⟩
  obtain ⟨S1, hS1⟩ : ∃ S1, S1 = S ++ N0 := ⟨_, rfl⟩
  have hx1 : ∃ N, S1 = S ++ N := ⟨_, hS1⟩
  rw [← hS1]
  clear hS1
  refine seq_cut (call_mono _ _) (fun Γ S' => ∃ pr ss pv, Tbl g room qs qs.length pr ss ∧ (∀ b, b ≤ qs.length → Xd (DD way bottom * DD way bottom) 820 (qs.length - b + 1) (pr b)) ∧ (∃ N, S' = S ++ N) ∧ LV S' pv (wv (qs.length + 1) pr) ∧ Γ = [some (.scr ns), some (.int first), some (.int way), some (.int bottom), some (.lst (qs.map Qv)), some (.int qs.length), some (Qv g), some (Qv room), some pv, none, none, none, none, none, none, none]) ?_ ?_
  · walk_at "am"
    refine told_ok cs _ qs g room hq hg hr (by omega) (by omega) (by omega) (.inl rfl) fun pr ss M hT hY => ?_
    obtain ⟨N, rfl⟩ := hx1
    exact ⟨pr, ss, _, hT, hY, ⟨_, List.append_assoc _ _ _⟩, LV.at (i := 1) rfl, rfl⟩
  clear hx1 S1
  rintro Γ S1 ⟨pr, ss, pv, hT, hY, ⟨N1, hN1⟩, hp, rfl⟩
  refine seq_cut (call_mono _ _) (fun Γ S' => (∃ N, S' = S1 ++ N) ∧ Γ = [some (.scr ns), some (.int first), some (.int way), some (.int bottom), some (.lst (qs.map Qv)), some (.int qs.length), some (Qv g), some (Qv room), some pv, none, none, none, none, none, none, none]) ?_ ?_
  · walk_at "am"
    have hdp : dats (wv (qs.length + 1) pr) = true := (datsQ _).1
    refine eq_nil (hp.more _) LV.here hdp (Nat.le_trans (datsQ _).2 (by decide)) ?_
    refine ⟨_, rfl, ?_⟩
    have hne : (wv (qs.length + 1) pr).isEmpty = false := by rw [wv_snoc]; simp
    rw [hne, if_neg (by decide)]
    refine (hp.more _).sub (L2.atI_nat (wv_get (Nat.lt_succ_self _))) ?_
    rw [e0, neQ, hT.nil]
    refine ⟨_, rfl, ?_⟩
    rw [if_neg (by decide)]
    first | exact ⟨_, rfl⟩ | exact ⟨⟨_, rfl⟩, rfl⟩
  rintro Γ S' ⟨⟨N2, rfl⟩, rfl⟩
  have hp := hp.more N2
  obtain ⟨S2, hS2⟩ : ∃ S2, S2 = S1 ++ N2 := ⟨_, rfl⟩
  have hx2 : ∃ N, S2 = S ++ N := ⟨N1 ++ N2, by rw [hS2, hN1, List.append_assoc]⟩
  rw [← hS2] at hp ⊢
  clear hS2 hN1
  refine seq_cut (call_mono _ _) (fun Γ S' => S' = S2 ++ [.lst (nw qs.length ss)] ∧ Γ = [some (.scr ns), some (.int first), some (.int way), some (.int bottom), some (.lst (qs.map Qv)), some (.int qs.length), some (Qv g), some (Qv room), some pv, some (.loc S2.length), none, none, none, none, none, none]) ?_ ?_
  · walk_at "am"
    refine ⟨by omega, by omega, ?_⟩
    refine cpL_inv (call_mono _ _) (fun i acc => acc = nw i ss) (fun acc => trivial) rfl ?_ ?_
    · rintro i x acc hx rfl
      obtain ⟨hi, rfl⟩ := rangeV_get hx
      refine ⟨_, rfl, ?_⟩
      rw [show (0 + (i : Int)) = ((i : Nat) : Int) by omega]
      walk_at "am"
      refine lfar_ok cs _ qs g room hq hg hr (by omega) (by omega) (by omega) hT hY (b := i) (by omega) (hp.more _) (.inl rfl) ?_
      refine ⟨rfl, by rw [nw_len]; omega, ?_⟩
      rw [nw_snoc]
    rintro acc rfl
    rw [rangeV_len, show ((qs.length : Nat) : Int).toNat = qs.length by omega]
    exact ⟨rfl, rfl⟩
  rintro Γ S' ⟨rfl, rfl⟩
  have hf : LV (S2 ++ [.lst (nw qs.length ss)]) (.loc S2.length) (nw qs.length ss) := LV.here
  obtain ⟨fv, hfv⟩ : ∃ fv, fv = Va.loc S2.length := ⟨_, rfl⟩
  rw [← hfv] at hf ⊢
  obtain ⟨S3, hS3⟩ : ∃ S3, S3 = S2 ++ [.lst (nw qs.length ss)] := ⟨_, rfl⟩
  have hx3 : ∃ N, S3 = S ++ N := by obtain ⟨N, rfl⟩ := hx2; exact ⟨_, by rw [hS3, List.append_assoc]⟩
  rw [← hS3] at hf ⊢
  clear hS3 hfv hx2 hp
  refine seq_cut (call_mono _ _) (fun Γ S' => S' = S3 ++ [.ins "Fair" []] ∧ Γ = [some (.scr ns), some (.int first), some (.int way), some (.int bottom), some (.lst (qs.map Qv)), some (.int qs.length), some (Qv g), some (Qv room), some pv, some fv, none, some (.loc S3.length), none, none, none, none]) ?_ ?_
  · walk_at "am"
    refine flow_ok fl _ "fair" ?_
    exact ⟨rfl, rfl⟩
  rintro Γ S' ⟨rfl, rfl⟩
  refine seq_cut (call_mono _ _) (fun Γ S' => S' = S3 ++ [.ins "Fair" []] ∧ Γ = [some (.scr ns), some (.int first), some (.int way), some (.int bottom), some (.lst (qs.map Qv)), some (.int qs.length), some (Qv g), some (Qv room), some pv, some fv, none, some (.loc S3.length), none, none, none, none]) ?_ ?_
  · walk_at "am"
    refine isin_neg (hf.more _) ?_
    refine ⟨_, rfl, ?_⟩
    rw [if_neg (by decide)]
    exact ⟨_, by rw [sg_p0]; rfl, true, rfl, by rw [if_neg (by decide)]⟩
  rintro Γ S' ⟨rfl, rfl⟩
  have hf := hf.more [.ins "Fair" []]
  have hfl : (S3 ++ [.ins "Fair" []])[S3.length]? = some (.ins "Fair" []) := by rw [sg_p0]; rfl
  generalize S3.length = fl_ at *
  obtain ⟨S4, hS4⟩ : ∃ S4, S4 = S3 ++ [.ins "Fair" []] := ⟨_, rfl⟩
  have hx4 : ∃ N, S4 = S ++ N := by obtain ⟨N, rfl⟩ := hx3; exact ⟨_, by rw [hS4, List.append_assoc]⟩
  rw [← hS4] at hf hfl ⊢
  clear hS4 hx3
  walk_at "am"
  have hcut : cutA (qs.map Qv) (some 1) none = (qs.drop 1).map Qv := by
    rw [show (some (1 : Int)) = some ((1 : Nat) : Int) from rfl, cut_from, List.map_drop]
  rw [hcut]
  have hdl : (qs.drop 1).length ≤ 60 := by rw [List.length_drop]; omega
  refine ⟨_, kept_app _ _ hfl, "Fair.counts", rfl, ?_⟩
  refine fair_ok cs _ (qs.drop 1) g room (fun q hq' => hq q (List.mem_of_mem_drop hq')) hg hr (by omega) (by omega) (by omega) (LV.at (i := 2) rfl) fun pr2 ss2 hT2 => ?_
  refine ⟨⟨_, LV.at (i := 2) rfl⟩, _, by rw [sg_pl]; rfl, by rw [ivs_len]; exact Nat.lt_of_le_of_lt (go_len _ _) (by omega), ?_⟩
  rw [ss_pl]
  have hfl6 := kept_app (N := [Ob.lst (qs.map Qv), Ob.lst ((qs.drop 1).map Qv), Ob.lst ((qs.drop 1).map Qv)]) _ _ hfl
  have hf6 := hf.more [Ob.lst (qs.map Qv), Ob.lst ((qs.drop 1).map Qv), Ob.lst ((qs.drop 1).map Qv)]
  have hh6 : LV (S4 ++ [Ob.lst (qs.map Qv), Ob.lst ((qs.drop 1).map Qv), Ob.lst ((qs.drop 1).map Qv)]) (.loc S4.length) (qs.map Qv) := LV.here
  have hx5 : ∃ N, S4 ++ [Ob.lst (qs.map Qv), Ob.lst ((qs.drop 1).map Qv), Ob.lst ((qs.drop 1).map Qv)] = S ++ N := by obtain ⟨N, rfl⟩ := hx4; exact ⟨_, List.append_assoc _ _ _⟩
  generalize (S4 ++ [Ob.lst (qs.map Qv), Ob.lst ((qs.drop 1).map Qv), Ob.lst ((qs.drop 1).map Qv)]) = S5 at *
  generalize (List.set [Ob.lst (wv ((qs.drop 1).length + 1) pr2), Ob.lst (nw ((qs.drop 1).length + 1) ss2), Ob.lst (ivs (go ss2 (qs.drop 1).length (qs.drop 1).length 0))] 2 _) = N5
  have hfl7 := kept_app (N := N5) _ _ hfl6
  have hf7 := hf6.more N5
  have hh7 := hh6.more N5
  have hx6 : ∃ N, S5 ++ N5 = S ++ N := by obtain ⟨N, rfl⟩ := hx5; exact ⟨_, List.append_assoc _ _ _⟩
  generalize (S5 ++ N5) = S6 at *
  generalize Va.loc S4.length = hv_ at *
  refine ⟨_, hfl7, "Fair.counts", rfl, ?_⟩
  refine fair_ok cs _ qs g room hq hg hr (by omega) (by omega) (by omega) hh7 fun pr3 ss3 hT3 => ?_
  have hgo : go ss3 qs.length qs.length 0 = go ss qs.length qs.length 0 := go_congr (fun b hb => (hT3.uniq hT _ b rfl hb).2) _ _
  rw [hgo]
  have hfd : LV (S6 ++ [.lst (wv (qs.length + 1) pr3), .lst (nw (qs.length + 1) ss3), .lst (ivs (go ss qs.length qs.length 0))]) (.loc (S6.length + 2)) (ivs (go ss qs.length qs.length 0)) := LV.at (i := 2) rfl
  have hf8 := hf7.more [.lst (wv (qs.length + 1) pr3), .lst (nw (qs.length + 1) ss3), .lst (ivs (go ss qs.length qs.length 0))]
  have hh8 := hh7.more [.lst (wv (qs.length + 1) pr3), .lst (nw (qs.length + 1) ss3), .lst (ivs (go ss qs.length qs.length 0))]
  have hx7 : ∃ N, S6 ++ [.lst (wv (qs.length + 1) pr3), .lst (nw (qs.length + 1) ss3), .lst (ivs (go ss qs.length qs.length 0))] = S ++ N := by obtain ⟨N, rfl⟩ := hx6; exact ⟨_, List.append_assoc _ _ _⟩
  generalize (Va.loc (S6.length + 2)) = fd at *
  generalize (S6 ++ [.lst (wv (qs.length + 1) pr3), .lst (nw (qs.length + 1) ss3), .lst (ivs (go ss qs.length qs.length 0))]) = S7 at *
  refine ⟨_, hfd.ty, ?_⟩
  rw [if_neg (by decide)]
  obtain ⟨z1, z2⟩ := datsQ qs
  refine ne_by (d := .lst (qs.map Qv)) (hh8.dv z1) (dv_pd (v := .lst (qs.map Qv)) z1) z1 (Nat.le_trans z2 (by decide)) ?_
  refine ⟨_, rfl, ?_⟩
  rw [if_neg (by decide)]
  have hfw : ∀ b, b < n → b < ss b ∧ ss b ≤ n := fun b hb => hnn ▸ hT.fwd (hnn ▸ hb)
  rw [← hnn] at hn hfd hf8 ⊢
  rw [show (S7 ++ [Ob.lst []]) = S7 ++ [Ob.lst (ivs [])] from rfl]
  refine seq_cut (call_mono _ _) (fun Γ S' => S' = S7 ++ [.lst (ivs (go ss n n 0))] ∧ ∃ a, Γ = [some (.scr ns), some (.int first), some (.int way), some (.int bottom), some (.lst (qs.map Qv)), some (.int n), some (Qv g), some (Qv room), some pv, some fv, a, some (.loc fl_), some hv_, some fd, some (.loc S7.length), none]) ?_ ?_
  · refine wh_rule (call_mono _ _) (fun Γ S' => ∃ cs b, b ≤ n ∧ cs.length ≤ b ∧ cs ++ go ss n n b = go ss n n 0 ∧ S' = S7 ++ [.lst (ivs cs)] ∧ Γ = [some (.scr ns), some (.int first), some (.int way), some (.int bottom), some (.lst (qs.map Qv)), some (.int n), some (Qv g), some (Qv room), some pv, some fv, some (.int (b : Nat)), some (.loc fl_), some hv_, some fd, some (.loc S7.length), none]) (fun Γ _ => n - at10 Γ) ?_ ?_
    · exact ⟨[], 0, Nat.zero_le _, Nat.le_refl _, rfl, rfl, rfl⟩
    · rintro Γ S' ⟨cs, b, hb, hcl, hcs, rfl, rfl⟩
      walk_at "am"
      by_cases hlt : b < n
      · obtain ⟨f1, f2⟩ := hfw b hlt
        rw [if_pos (by omega)]
        have hfb : (nw qs.length ss)[b]? = some (.int (ss b)) := nw_get (by omega)
        have hfb2 : (nw n ss)[b]? = some (.int (ss b)) := nw_get hlt
        refine (hf8.more _).sub (L2.atI_nat (by first | exact hfb | exact hfb2)) ?_
        walk_at "am"
        refine ⟨by rw [ivs_len]; omega, ?_⟩
        refine (hf8.more _).sub (L2.atI_nat (by first | exact hfb | exact hfb2)) ?_
        rw [at10_int, at10_int]
        refine ⟨⟨cs ++ [ss b - b], ss b, f2, by rw [List.length_append, List.length_singleton]; omega, ?_, ?_, rfl⟩, by omega⟩
        · rw [← hcs, go_step (fun b hb => (hfw b hb).1) hlt]; simp
        · simp [ivs, iv]; omega
      · rw [if_neg (by omega)]
        rw [go_end hlt, List.append_nil] at hcs
        rw [hcs]
        exact ⟨rfl, _, rfl⟩
  rintro Γ S' ⟨rfl, a, rfl⟩
  have hfd := hfd.more [.lst (ivs (go ss n n 0))]
  refine seq_cut (call_mono _ _) (fun Γ S' => S' = S7 ++ [.lst (ivs (go ss n n 0))] ∧ ∃ b, Γ = [some (.scr ns), some (.int first), some (.int way), some (.int bottom), some (.lst (qs.map Qv)), some (.int n), some (Qv g), some (Qv room), some pv, some fv, a, some (.loc fl_), some hv_, some fd, some (.loc S7.length), b]) ?_ ?_
  · walk_at "am"
    refine LV.seq0 hfd fun G hG => ⟨hG _ ⟨[], by simp⟩, ?_⟩
    refine for_ix (call_mono _ _) (fun i Γ S' => S' = S7 ++ [.lst (ivs (go ss n n 0))] ∧ ∃ b, Γ = [some (.scr ns), some (.int first), some (.int way), some (.int bottom), some (.lst (qs.map Qv)), some (.int n), some (Qv g), some (Qv room), some pv, some fv, a, some (.loc fl_), some hv_, some fd, some (.loc S7.length), b]) ?_ ?_ ?_
    · exact ⟨rfl, none, rfl⟩
    · rintro i x Γ S' hx ⟨rfl, b, rfl⟩
      unfold ivs at hx
      rw [List.getElem?_map] at hx
      obtain ⟨q, hqi, rfl⟩ := Option.map_eq_some_iff.mp hx
      refine ⟨_, rfl, ?_⟩
      unfold iv
      walk_at "am"
      exact ⟨hG _ ⟨[], by simp⟩, _, rfl⟩
    · rintro Γ S' ⟨rfl, b, rfl⟩
      exact ⟨rfl, b, rfl⟩
  rintro Γ S' ⟨rfl, b, rfl⟩
  walk_at "am"
  refine eq_by (d := .lst (ivs (go ss n n 0))) (hfd.dv (dats_ivs _)) (LV.here.dv (dats_ivs _)) (dats_ivs _) (Nat.le_trans (dep_ivs _) (by decide)) ?_
  obtain ⟨N, rfl⟩ := hx7
  rw [List.append_assoc]
  exact fin_val rfl h
theorem law_holds (ns : List Int) (hl : ns.length ≤ 63) (hb : ∀ z ∈ ns, Builtin.Int.intBits z ≤ 1048576) : call Hd.T 12 "law" [.scr ns] [] (fun v _ => v = .bl true) (fun _ _ => False) := law_any ns hl hb rfl
end LawProof
/-! the head, printed by gen.py -/
namespace Hd
open PySem PySem.Spec PyProof.Rows L2 AM
def top (i : Nat) : Stmt := PySem.Challenge.pw_stylehouse_k29_fair_lines.main.body.getD i (.Pass ⟨0, 0, 0, 0⟩)
def meth (i j : Nat) : Stmt := match top i with
  | .ClassDef _ _ _ b _ _ _ _ _ _ _ => b.getD j (.Pass ⟨0, 0, 0, 0⟩)
  | _ => .Pass ⟨0, 0, 0, 0⟩
def d_f__wall : He.DefD := ⟨("_wall", none), "_wall", "_wall", defArgs (top 0), defBody (top 0), defScope (top 0), [], []⟩
def d_f_divisor : He.DefD := ⟨("divisor", none), "divisor", "divisor", defArgs (top 5), defBody (top 5), defScope (top 5), [], []⟩
def d_f_fraction : He.DefD := ⟨("fraction", none), "fraction", "fraction", defArgs (top 6), defBody (top 6), defScope (top 6), [], []⟩
def d_f_plus : He.DefD := ⟨("plus", none), "plus", "plus", defArgs (top 7), defBody (top 7), defScope (top 7), [], []⟩
def d_f_minus : He.DefD := ⟨("minus", none), "minus", "minus", defArgs (top 8), defBody (top 8), defScope (top 8), [], []⟩
def d_f_times : He.DefD := ⟨("times", none), "times", "times", defArgs (top 9), defBody (top 9), defScope (top 9), [], []⟩
def d_f_less : He.DefD := ⟨("less", none), "less", "less", defArgs (top 10), defBody (top 10), defScope (top 10), [], []⟩
def d_f_cost_of : He.DefD := ⟨("cost_of", none), "cost_of", "cost_of", defArgs (top 12), defBody (top 12), defScope (top 12), [], []⟩
def d_f_ways_of : He.DefD := ⟨("ways_of", none), "ways_of", "ways_of", defArgs (top 13), defBody (top 13), defScope (top 13), [], []⟩
def d_f_prices_of : He.DefD := ⟨("prices_of", none), "prices_of", "prices_of", defArgs (top 14), defBody (top 14), defScope (top 14), [], []⟩
def d_f_flow_of : He.DefD := ⟨("flow_of", none), "flow_of", "flow_of", defArgs (top 19), defBody (top 19), defScope (top 19), [], []⟩
def d_f_l_cell_at : He.DefD := ⟨("_law_cell_at", none), "_law_cell_at", "_law_cell_at", defArgs (top 21), defBody (top 21), defScope (top 21), [], []⟩
def d_f_l_low : He.DefD := ⟨("_law_low", none), "_law_low", "_law_low", defArgs (top 22), defBody (top 22), defScope (top 22), [], []⟩
def d_f_l_sum : He.DefD := ⟨("_law_sum", none), "_law_sum", "_law_sum", defArgs (top 23), defBody (top 23), defScope (top 23), [], []⟩
def d_f_l_less : He.DefD := ⟨("_law_less", none), "_law_less", "_law_less", defArgs (top 24), defBody (top 24), defScope (top 24), [], []⟩
def d_f_l_width_by : He.DefD := ⟨("_law_width_by", none), "_law_width_by", "_law_width_by", defArgs (top 25), defBody (top 25), defScope (top 25), [], []⟩
def d_f_l_cost : He.DefD := ⟨("_law_cost", none), "_law_cost", "_law_cost", defArgs (top 26), defBody (top 26), defScope (top 26), [], []⟩
def d_f_l_fraction : He.DefD := ⟨("_law_fraction", none), "_law_fraction", "_law_fraction", defArgs (top 27), defBody (top 27), defScope (top 27), [], []⟩
def d_f_l_farthest : He.DefD := ⟨("_law_farthest", none), "_law_farthest", "_law_farthest", defArgs (top 28), defBody (top 28), defScope (top 28), [], []⟩
def d_f_l_room_by : He.DefD := ⟨("_law_room_by", none), "_law_room_by", "_law_room_by", defArgs (top 29), defBody (top 29), defScope (top 29), [], []⟩
def d_f_l_widths_by : He.DefD := ⟨("_law_widths_by", none), "_law_widths_by", "_law_widths_by", defArgs (top 30), defBody (top 30), defScope (top 30), [], []⟩
def d_f_l_told : He.DefD := ⟨("_law_told", none), "_law_told", "_law_told", defArgs (top 31), defBody (top 31), defScope (top 31), [], []⟩
def d_f_law : He.DefD := ⟨("law", none), "law", "law", defArgs (top 32), defBody (top 32), defScope (top 32), [], []⟩
def d_f_Flow_counts : He.DefD := ⟨("Flow", some "counts"), "counts", "Flow.counts", defArgs (meth 15 0), defBody (meth 15 0), defScope (meth 15 0), [], []⟩
def d_f_Flow_breadth : He.DefD := ⟨("Flow", some "breadth"), "breadth", "Flow.breadth", defArgs (meth 15 1), defBody (meth 15 1), defScope (meth 15 1), [], []⟩
def d_f_Stack_counts : He.DefD := ⟨("Stack", some "counts"), "counts", "Stack.counts", defArgs (meth 16 0), defBody (meth 16 0), defScope (meth 16 0), [], []⟩
def d_f_Stack_breadth : He.DefD := ⟨("Stack", some "breadth"), "breadth", "Stack.breadth", defArgs (meth 16 1), defBody (meth 16 1), defScope (meth 16 1), [], []⟩
def d_f_Wrap_counts : He.DefD := ⟨("Wrap", some "counts"), "counts", "Wrap.counts", defArgs (meth 17 0), defBody (meth 17 0), defScope (meth 17 0), [], []⟩
def d_f_Fair_counts : He.DefD := ⟨("Fair", some "counts"), "counts", "Fair.counts", defArgs (meth 18 0), defBody (meth 18 0), defScope (meth 18 0), [], []⟩
def fn : List He.DefD := [d_f__wall, d_f_divisor, d_f_fraction, d_f_plus, d_f_minus, d_f_times, d_f_less, d_f_cost_of, d_f_ways_of, d_f_prices_of, d_f_flow_of, d_f_l_cell_at, d_f_l_low, d_f_l_sum, d_f_l_less, d_f_l_width_by, d_f_l_cost, d_f_l_fraction, d_f_l_farthest, d_f_l_room_by, d_f_l_widths_by, d_f_l_told, d_f_law, d_f_Flow_counts, d_f_Flow_breadth, d_f_Stack_counts, d_f_Stack_breadth, d_f_Wrap_counts, d_f_Fair_counts]
def fa : List He.Fa := [.glo "_wall",
  .glo "divisor",
  .glo "fraction",
  .glo "plus",
  .glo "minus",
  .glo "times",
  .glo "less",
  .glo "cost_of",
  .glo "ways_of",
  .glo "prices_of",
  .glo "flow_of",
  .glo "_law_cell_at",
  .glo "_law_low",
  .glo "_law_sum",
  .glo "_law_less",
  .glo "_law_width_by",
  .glo "_law_cost",
  .glo "_law_fraction",
  .glo "_law_farthest",
  .glo "_law_room_by",
  .glo "_law_widths_by",
  .glo "_law_told",
  .glo "law",
  .free "len",
  .free "abs",
  .free "isinstance",
  .free "int",
  .free "bool",
  .free "str",
  .free "tuple",
  .free "list",
  .free "dict",
  .free "range",
  .free "max",
  .free "min",
  .free "sum",
  .free "sorted",
  .free "reversed",
  .free "enumerate",
  .free "zip",
  .free "all",
  .free "any",
  .free "ord",
  .glo "HouseError",
  .exc "HouseError",
  .glo "NoFraction",
  .exc "NoFraction",
  .glo "Flow",
  .cls "Flow",
  .meth "Flow" "counts",
  .meth "Flow" "breadth",
  .keep "Flow",
  .glo "Stack",
  .cls "Stack",
  .meth "Stack" "counts",
  .meth "Stack" "breadth",
  .keep "Stack",
  .glo "Wrap",
  .cls "Wrap",
  .meth "Wrap" "counts",
  .meth "Wrap" "breadth",
  .keep "Wrap",
  .glo "Fair",
  .cls "Fair",
  .meth "Fair" "counts",
  .meth "Fair" "breadth",
  .keep "Fair"]
def ex (K : PySem.W.Frag) : Bool := ([PySem.W.makesIn K (He.ga K "Flow"),
  decide (PySem.W.findIn K (.ref (He.ga K "Flow")) "__init__" = some (some (.builtin "object.__init__"))),
  decide (PySem.W.mroIn K (He.ga K "Flow") (.type "object") = some true),
  PySem.W.makesIn K (He.ga K "Stack"),
  decide (PySem.W.findIn K (.ref (He.ga K "Stack")) "__init__" = some (some (.builtin "object.__init__"))),
  decide (PySem.W.mroIn K (He.ga K "Stack") (.type "object") = some true),
  decide (He.ma K (He.ga K "Wrap") "breadth" = He.ma K (He.ga K "Flow") "breadth"),
  PySem.W.makesIn K (He.ga K "Wrap"),
  decide (PySem.W.findIn K (.ref (He.ga K "Wrap")) "__init__" = some (some (.builtin "object.__init__"))),
  decide (PySem.W.mroIn K (He.ga K "Wrap") (.type "object") = some true),
  decide (He.ma K (He.ga K "Fair") "breadth" = He.ma K (He.ga K "Flow") "breadth"),
  PySem.W.makesIn K (He.ga K "Fair"),
  decide (PySem.W.findIn K (.ref (He.ga K "Fair")) "__init__" = some (some (.builtin "object.__init__"))),
  decide (PySem.W.mroIn K (He.ga K "Fair") (.type "object") = some true),
  decide (PySem.W.findIn K (.ref (He.ga K "Flow")) "__class__" = some (some (.builtin "object.__class__"))),
  decide (PySem.W.specialIn K (.builtin "object.__class__") "__get__" = some (some (.builtin "getset_descriptor.__get__"))),
  decide (PySem.W.takesIn K (.builtin "object.__class__") = some true),
  decide (PySem.W.kitOne K (.ref (He.ga K "Flow")) (.ref (He.ga K "Flow")) = some true),
  decide (PySem.W.findIn K (.ref (He.ga K "Stack")) "__class__" = some (some (.builtin "object.__class__"))),
  decide (PySem.W.kitOne K (.ref (He.ga K "Stack")) (.ref (He.ga K "Flow")) = some true),
  decide (PySem.W.findIn K (.ref (He.ga K "Wrap")) "__class__" = some (some (.builtin "object.__class__"))),
  decide (PySem.W.kitOne K (.ref (He.ga K "Wrap")) (.ref (He.ga K "Flow")) = some true),
  decide (PySem.W.findIn K (.ref (He.ga K "Fair")) "__class__" = some (some (.builtin "object.__class__"))),
  decide (PySem.W.kitOne K (.ref (He.ga K "Fair")) (.ref (He.ga K "Flow")) = some true)] : List Bool).all id
abbrev fs : List Str := ["_wall", "divisor", "fraction", "plus", "minus", "times", "less", "cost_of", "ways_of", "prices_of", "flow_of", "_law_cell_at", "_law_low", "_law_sum", "_law_less", "_law_width_by", "_law_cost", "_law_fraction", "_law_farthest", "_law_room_by", "_law_widths_by", "_law_told", "law"]
abbrev xs : List Str := ["HouseError", "NoFraction"]
abbrev R : PySem.W.OpenRow := PySem.W.OpenLaw.row PySem.Challenge.rw_stylehouse_k29_fair_lines
abbrev tsx : List He.Tab := []
abbrev hk : PySem.W.Hook := He.hookX 6 fa fn tsx [] ex
def ob (s : PySem.W.SharedT) : He.AlX := He.obsX 6 fa fn tsx [] ex (HandSHeadRun.getT s)
theorem ob_eq (s : PySem.W.SharedT) : ob s = hk.obs s.abs := He.obsX_eq (HandSHeadRun.getT_eq s)
def loose : List Str := (["_wall", "HouseError", "NoFraction", "divisor", "fraction", "plus", "minus", "times", "less", "cost_of", "ways_of", "prices_of", "Flow", "Stack", "Wrap", "Fair", "flow_of", "_law_cell_at", "_law_low", "_law_sum", "_law_less", "_law_width_by", "_law_cost", "_law_fraction", "_law_farthest", "_law_room_by", "_law_widths_by", "_law_told"] : List Str)
theorem run (w : World) : HandSHeadRun.RunEq R (PySem.W.view R.prog [32]) hk ob 4000 loose w := by
  intro os
  kernel_rfl
theorem c_f__wall : ckF xs fs f__wall (top 0) = true := by decide +kernel
theorem c_f_divisor : ckF xs fs f_divisor (top 5) = true := by decide +kernel
theorem c_f_fraction : ckF xs fs f_fraction (top 6) = true := by decide +kernel
theorem c_f_plus : ckF xs fs f_plus (top 7) = true := by decide +kernel
theorem c_f_minus : ckF xs fs f_minus (top 8) = true := by decide +kernel
theorem c_f_times : ckF xs fs f_times (top 9) = true := by decide +kernel
theorem c_f_less : ckF xs fs f_less (top 10) = true := by decide +kernel
theorem c_f_cost_of : ckF xs fs f_cost_of (top 12) = true := by decide +kernel
theorem c_f_ways_of : ckF xs fs f_ways_of (top 13) = true := by decide +kernel
theorem c_f_prices_of : ckF xs fs f_prices_of (top 14) = true := by decide +kernel
theorem c_f_flow_of : ckF xs fs f_flow_of (top 19) = true := by decide +kernel
theorem c_f_l_cell_at : ckF xs fs f_l_cell_at (top 21) = true := by decide +kernel
theorem c_f_l_low : ckF xs fs f_l_low (top 22) = true := by decide +kernel
theorem c_f_l_sum : ckF xs fs f_l_sum (top 23) = true := by decide +kernel
theorem c_f_l_less : ckF xs fs f_l_less (top 24) = true := by decide +kernel
theorem c_f_l_width_by : ckF xs fs f_l_width_by (top 25) = true := by decide +kernel
theorem c_f_l_cost : ckF xs fs f_l_cost (top 26) = true := by decide +kernel
theorem c_f_l_fraction : ckF xs fs f_l_fraction (top 27) = true := by decide +kernel
theorem c_f_l_farthest : ckF xs fs f_l_farthest (top 28) = true := by decide +kernel
theorem c_f_l_room_by : ckF xs fs f_l_room_by (top 29) = true := by decide +kernel
theorem c_f_l_widths_by : ckF xs fs f_l_widths_by (top 30) = true := by decide +kernel
theorem c_f_l_told : ckF xs fs f_l_told (top 31) = true := by decide +kernel
theorem c_f_law : ckF xs fs f_law (top 32) = true := by decide +kernel
theorem c_f_Flow_counts : ckF xs fs f_Flow_counts (meth 15 0) = true := by decide +kernel
theorem c_f_Flow_breadth : ckF xs fs f_Flow_breadth (meth 15 1) = true := by decide +kernel
theorem c_f_Stack_counts : ckF xs fs f_Stack_counts (meth 16 0) = true := by decide +kernel
theorem c_f_Stack_breadth : ckF xs fs f_Stack_breadth (meth 16 1) = true := by decide +kernel
theorem c_f_Wrap_counts : ckF xs fs f_Wrap_counts (meth 17 0) = true := by decide +kernel
theorem c_f_Fair_counts : ckF xs fs f_Fair_counts (meth 18 0) = true := by decide +kernel
theorem exOk {K : PySem.W.Frag} (h : ex K = true) (i : Nat) {b : Bool} (hb : ([PySem.W.makesIn K (He.ga K "Flow"),
  decide (PySem.W.findIn K (.ref (He.ga K "Flow")) "__init__" = some (some (.builtin "object.__init__"))),
  decide (PySem.W.mroIn K (He.ga K "Flow") (.type "object") = some true),
  PySem.W.makesIn K (He.ga K "Stack"),
  decide (PySem.W.findIn K (.ref (He.ga K "Stack")) "__init__" = some (some (.builtin "object.__init__"))),
  decide (PySem.W.mroIn K (He.ga K "Stack") (.type "object") = some true),
  decide (He.ma K (He.ga K "Wrap") "breadth" = He.ma K (He.ga K "Flow") "breadth"),
  PySem.W.makesIn K (He.ga K "Wrap"),
  decide (PySem.W.findIn K (.ref (He.ga K "Wrap")) "__init__" = some (some (.builtin "object.__init__"))),
  decide (PySem.W.mroIn K (He.ga K "Wrap") (.type "object") = some true),
  decide (He.ma K (He.ga K "Fair") "breadth" = He.ma K (He.ga K "Flow") "breadth"),
  PySem.W.makesIn K (He.ga K "Fair"),
  decide (PySem.W.findIn K (.ref (He.ga K "Fair")) "__init__" = some (some (.builtin "object.__init__"))),
  decide (PySem.W.mroIn K (He.ga K "Fair") (.type "object") = some true),
  decide (PySem.W.findIn K (.ref (He.ga K "Flow")) "__class__" = some (some (.builtin "object.__class__"))),
  decide (PySem.W.specialIn K (.builtin "object.__class__") "__get__" = some (some (.builtin "getset_descriptor.__get__"))),
  decide (PySem.W.takesIn K (.builtin "object.__class__") = some true),
  decide (PySem.W.kitOne K (.ref (He.ga K "Flow")) (.ref (He.ga K "Flow")) = some true),
  decide (PySem.W.findIn K (.ref (He.ga K "Stack")) "__class__" = some (some (.builtin "object.__class__"))),
  decide (PySem.W.kitOne K (.ref (He.ga K "Stack")) (.ref (He.ga K "Flow")) = some true),
  decide (PySem.W.findIn K (.ref (He.ga K "Wrap")) "__class__" = some (some (.builtin "object.__class__"))),
  decide (PySem.W.kitOne K (.ref (He.ga K "Wrap")) (.ref (He.ga K "Flow")) = some true),
  decide (PySem.W.findIn K (.ref (He.ga K "Fair")) "__class__" = some (some (.builtin "object.__class__"))),
  decide (PySem.W.kitOne K (.ref (He.ga K "Fair")) (.ref (He.ga K "Flow")) = some true)] : List Bool)[i]? = some b := by rfl) : b = true := List.all_eq_true.mp h b (List.mem_of_getElem? hb)
theorem D_f__wall {K : PySem.W.Frag} (c : He.SaysD fa fn K) : ∃ fd, DefOk K T fs xs "_wall" (He.fAd K ("_wall", none)) f__wall fd :=
  have ⟨fd, F⟩ := c.def_ 0 (d := d_f__wall) rfl
  ⟨fd, top 0, _, _, rfl, F, FunD.bindsN F (fun _ _ _ _ _ _ us hl => match us, hl with | [_], _ => rfl), c_f__wall⟩
theorem D_f_divisor {K : PySem.W.Frag} (c : He.SaysD fa fn K) : ∃ fd, DefOk K T fs xs "divisor" (He.fAd K ("divisor", none)) f_divisor fd :=
  have ⟨fd, F⟩ := c.def_ 1 (d := d_f_divisor) rfl
  ⟨fd, top 5, _, _, rfl, F, FunD.bindsN F (fun _ _ _ _ _ _ us hl => match us, hl with | [_, _], _ => rfl), c_f_divisor⟩
theorem D_f_fraction {K : PySem.W.Frag} (c : He.SaysD fa fn K) : ∃ fd, DefOk K T fs xs "fraction" (He.fAd K ("fraction", none)) f_fraction fd :=
  have ⟨fd, F⟩ := c.def_ 2 (d := d_f_fraction) rfl
  ⟨fd, top 6, _, _, rfl, F, FunD.bindsN F (fun _ _ _ _ _ _ us hl => match us, hl with | [_, _], _ => rfl), c_f_fraction⟩
theorem D_f_plus {K : PySem.W.Frag} (c : He.SaysD fa fn K) : ∃ fd, DefOk K T fs xs "plus" (He.fAd K ("plus", none)) f_plus fd :=
  have ⟨fd, F⟩ := c.def_ 3 (d := d_f_plus) rfl
  ⟨fd, top 7, _, _, rfl, F, FunD.bindsN F (fun _ _ _ _ _ _ us hl => match us, hl with | [_, _], _ => rfl), c_f_plus⟩
theorem D_f_minus {K : PySem.W.Frag} (c : He.SaysD fa fn K) : ∃ fd, DefOk K T fs xs "minus" (He.fAd K ("minus", none)) f_minus fd :=
  have ⟨fd, F⟩ := c.def_ 4 (d := d_f_minus) rfl
  ⟨fd, top 8, _, _, rfl, F, FunD.bindsN F (fun _ _ _ _ _ _ us hl => match us, hl with | [_, _], _ => rfl), c_f_minus⟩
theorem D_f_times {K : PySem.W.Frag} (c : He.SaysD fa fn K) : ∃ fd, DefOk K T fs xs "times" (He.fAd K ("times", none)) f_times fd :=
  have ⟨fd, F⟩ := c.def_ 5 (d := d_f_times) rfl
  ⟨fd, top 9, _, _, rfl, F, FunD.bindsN F (fun _ _ _ _ _ _ us hl => match us, hl with | [_, _], _ => rfl), c_f_times⟩
theorem D_f_less {K : PySem.W.Frag} (c : He.SaysD fa fn K) : ∃ fd, DefOk K T fs xs "less" (He.fAd K ("less", none)) f_less fd :=
  have ⟨fd, F⟩ := c.def_ 6 (d := d_f_less) rfl
  ⟨fd, top 10, _, _, rfl, F, FunD.bindsN F (fun _ _ _ _ _ _ us hl => match us, hl with | [_, _], _ => rfl), c_f_less⟩
theorem D_f_cost_of {K : PySem.W.Frag} (c : He.SaysD fa fn K) : ∃ fd, DefOk K T fs xs "cost_of" (He.fAd K ("cost_of", none)) f_cost_of fd :=
  have ⟨fd, F⟩ := c.def_ 7 (d := d_f_cost_of) rfl
  ⟨fd, top 12, _, _, rfl, F, FunD.bindsN F (fun _ _ _ _ _ _ us hl => match us, hl with | [_, _], _ => rfl), c_f_cost_of⟩
theorem D_f_ways_of {K : PySem.W.Frag} (c : He.SaysD fa fn K) : ∃ fd, DefOk K T fs xs "ways_of" (He.fAd K ("ways_of", none)) f_ways_of fd :=
  have ⟨fd, F⟩ := c.def_ 8 (d := d_f_ways_of) rfl
  ⟨fd, top 13, _, _, rfl, F, FunD.bindsN F (fun _ _ _ _ _ _ us hl => match us, hl with | [_, _, _], _ => rfl), c_f_ways_of⟩
theorem D_f_prices_of {K : PySem.W.Frag} (c : He.SaysD fa fn K) : ∃ fd, DefOk K T fs xs "prices_of" (He.fAd K ("prices_of", none)) f_prices_of fd :=
  have ⟨fd, F⟩ := c.def_ 9 (d := d_f_prices_of) rfl
  ⟨fd, top 14, _, _, rfl, F, FunD.bindsN F (fun _ _ _ _ _ _ us hl => match us, hl with | [_, _, _], _ => rfl), c_f_prices_of⟩
theorem D_f_flow_of {K : PySem.W.Frag} (c : He.SaysD fa fn K) : ∃ fd, DefOk K T fs xs "flow_of" (He.fAd K ("flow_of", none)) f_flow_of fd :=
  have ⟨fd, F⟩ := c.def_ 10 (d := d_f_flow_of) rfl
  ⟨fd, top 19, _, _, rfl, F, FunD.bindsN F (fun _ _ _ _ _ _ us hl => match us, hl with | [_], _ => rfl), c_f_flow_of⟩
theorem D_f_l_cell_at {K : PySem.W.Frag} (c : He.SaysD fa fn K) : ∃ fd, DefOk K T fs xs "_law_cell_at" (He.fAd K ("_law_cell_at", none)) f_l_cell_at fd :=
  have ⟨fd, F⟩ := c.def_ 11 (d := d_f_l_cell_at) rfl
  ⟨fd, top 21, _, _, rfl, F, FunD.bindsN F (fun _ _ _ _ _ _ us hl => match us, hl with | [_, _], _ => rfl), c_f_l_cell_at⟩
theorem D_f_l_low {K : PySem.W.Frag} (c : He.SaysD fa fn K) : ∃ fd, DefOk K T fs xs "_law_low" (He.fAd K ("_law_low", none)) f_l_low fd :=
  have ⟨fd, F⟩ := c.def_ 12 (d := d_f_l_low) rfl
  ⟨fd, top 22, _, _, rfl, F, FunD.bindsN F (fun _ _ _ _ _ _ us hl => match us, hl with | [_, _], _ => rfl), c_f_l_low⟩
theorem D_f_l_sum {K : PySem.W.Frag} (c : He.SaysD fa fn K) : ∃ fd, DefOk K T fs xs "_law_sum" (He.fAd K ("_law_sum", none)) f_l_sum fd :=
  have ⟨fd, F⟩ := c.def_ 13 (d := d_f_l_sum) rfl
  ⟨fd, top 23, _, _, rfl, F, FunD.bindsN F (fun _ _ _ _ _ _ us hl => match us, hl with | [_, _], _ => rfl), c_f_l_sum⟩
theorem D_f_l_less {K : PySem.W.Frag} (c : He.SaysD fa fn K) : ∃ fd, DefOk K T fs xs "_law_less" (He.fAd K ("_law_less", none)) f_l_less fd :=
  have ⟨fd, F⟩ := c.def_ 14 (d := d_f_l_less) rfl
  ⟨fd, top 24, _, _, rfl, F, FunD.bindsN F (fun _ _ _ _ _ _ us hl => match us, hl with | [_, _], _ => rfl), c_f_l_less⟩
theorem D_f_l_width_by {K : PySem.W.Frag} (c : He.SaysD fa fn K) : ∃ fd, DefOk K T fs xs "_law_width_by" (He.fAd K ("_law_width_by", none)) f_l_width_by fd :=
  have ⟨fd, F⟩ := c.def_ 15 (d := d_f_l_width_by) rfl
  ⟨fd, top 25, _, _, rfl, F, FunD.bindsN F (fun _ _ _ _ _ _ us hl => match us, hl with | [_, _, _], _ => rfl), c_f_l_width_by⟩
theorem D_f_l_cost {K : PySem.W.Frag} (c : He.SaysD fa fn K) : ∃ fd, DefOk K T fs xs "_law_cost" (He.fAd K ("_law_cost", none)) f_l_cost fd :=
  have ⟨fd, F⟩ := c.def_ 16 (d := d_f_l_cost) rfl
  ⟨fd, top 26, _, _, rfl, F, FunD.bindsN F (fun _ _ _ _ _ _ us hl => match us, hl with | [_, _], _ => rfl), c_f_l_cost⟩
theorem D_f_l_fraction {K : PySem.W.Frag} (c : He.SaysD fa fn K) : ∃ fd, DefOk K T fs xs "_law_fraction" (He.fAd K ("_law_fraction", none)) f_l_fraction fd :=
  have ⟨fd, F⟩ := c.def_ 17 (d := d_f_l_fraction) rfl
  ⟨fd, top 27, _, _, rfl, F, FunD.bindsN F (fun _ _ _ _ _ _ us hl => match us, hl with | [_], _ => rfl), c_f_l_fraction⟩
theorem D_f_l_farthest {K : PySem.W.Frag} (c : He.SaysD fa fn K) : ∃ fd, DefOk K T fs xs "_law_farthest" (He.fAd K ("_law_farthest", none)) f_l_farthest fd :=
  have ⟨fd, F⟩ := c.def_ 18 (d := d_f_l_farthest) rfl
  ⟨fd, top 28, _, _, rfl, F, FunD.bindsN F (fun _ _ _ _ _ _ us hl => match us, hl with | [_, _, _, _, _], _ => rfl), c_f_l_farthest⟩
theorem D_f_l_room_by {K : PySem.W.Frag} (c : He.SaysD fa fn K) : ∃ fd, DefOk K T fs xs "_law_room_by" (He.fAd K ("_law_room_by", none)) f_l_room_by fd :=
  have ⟨fd, F⟩ := c.def_ 19 (d := d_f_l_room_by) rfl
  ⟨fd, top 29, _, _, rfl, F, FunD.bindsN F (fun _ _ _ _ _ _ us hl => match us, hl with | [_, _, _, _, _], _ => rfl), c_f_l_room_by⟩
theorem D_f_l_widths_by {K : PySem.W.Frag} (c : He.SaysD fa fn K) : ∃ fd, DefOk K T fs xs "_law_widths_by" (He.fAd K ("_law_widths_by", none)) f_l_widths_by fd :=
  have ⟨fd, F⟩ := c.def_ 20 (d := d_f_l_widths_by) rfl
  ⟨fd, top 30, _, _, rfl, F, FunD.bindsN F (fun _ _ _ _ _ _ us hl => match us, hl with | [_, _, _, _], _ => rfl), c_f_l_widths_by⟩
theorem D_f_l_told {K : PySem.W.Frag} (c : He.SaysD fa fn K) : ∃ fd, DefOk K T fs xs "_law_told" (He.fAd K ("_law_told", none)) f_l_told fd :=
  have ⟨fd, F⟩ := c.def_ 21 (d := d_f_l_told) rfl
  ⟨fd, top 31, _, _, rfl, F, FunD.bindsN F (fun _ _ _ _ _ _ us hl => match us, hl with | [_, _, _], _ => rfl), c_f_l_told⟩
theorem D_f_law {K : PySem.W.Frag} (c : He.SaysD fa fn K) : ∃ fd, DefOk K T fs xs "law" (He.fAd K ("law", none)) f_law fd :=
  have ⟨fd, F⟩ := c.def_ 22 (d := d_f_law) rfl
  ⟨fd, top 32, _, _, rfl, F, FunD.bindsN F (fun _ _ _ _ _ _ us hl => match us, hl with | [_], _ => rfl), c_f_law⟩
theorem D_f_Flow_counts {K : PySem.W.Frag} (c : He.SaysD fa fn K) : ∃ fd, DefOk K T fs xs "Flow.counts" (He.fAd K ("Flow", some "counts")) f_Flow_counts fd :=
  have ⟨fd, F⟩ := c.def_ 23 (d := d_f_Flow_counts) rfl
  ⟨fd, meth 15 0, _, _, rfl, F, FunD.bindsN F (fun _ _ _ _ _ _ us hl => match us, hl with | [_, _, _, _], _ => rfl), c_f_Flow_counts⟩
theorem D_f_Flow_breadth {K : PySem.W.Frag} (c : He.SaysD fa fn K) : ∃ fd, DefOk K T fs xs "Flow.breadth" (He.fAd K ("Flow", some "breadth")) f_Flow_breadth fd :=
  have ⟨fd, F⟩ := c.def_ 24 (d := d_f_Flow_breadth) rfl
  ⟨fd, meth 15 1, _, _, rfl, F, FunD.bindsN F (fun _ _ _ _ _ _ us hl => match us, hl with | [_, _, _], _ => rfl), c_f_Flow_breadth⟩
theorem D_f_Stack_counts {K : PySem.W.Frag} (c : He.SaysD fa fn K) : ∃ fd, DefOk K T fs xs "Stack.counts" (He.fAd K ("Stack", some "counts")) f_Stack_counts fd :=
  have ⟨fd, F⟩ := c.def_ 25 (d := d_f_Stack_counts) rfl
  ⟨fd, meth 16 0, _, _, rfl, F, FunD.bindsN F (fun _ _ _ _ _ _ us hl => match us, hl with | [_, _, _, _], _ => rfl), c_f_Stack_counts⟩
theorem D_f_Stack_breadth {K : PySem.W.Frag} (c : He.SaysD fa fn K) : ∃ fd, DefOk K T fs xs "Stack.breadth" (He.fAd K ("Stack", some "breadth")) f_Stack_breadth fd :=
  have ⟨fd, F⟩ := c.def_ 26 (d := d_f_Stack_breadth) rfl
  ⟨fd, meth 16 1, _, _, rfl, F, FunD.bindsN F (fun _ _ _ _ _ _ us hl => match us, hl with | [_, _, _], _ => rfl), c_f_Stack_breadth⟩
theorem D_f_Wrap_counts {K : PySem.W.Frag} (c : He.SaysD fa fn K) : ∃ fd, DefOk K T fs xs "Wrap.counts" (He.fAd K ("Wrap", some "counts")) f_Wrap_counts fd :=
  have ⟨fd, F⟩ := c.def_ 27 (d := d_f_Wrap_counts) rfl
  ⟨fd, meth 17 0, _, _, rfl, F, FunD.bindsN F (fun _ _ _ _ _ _ us hl => match us, hl with | [_, _, _, _], _ => rfl), c_f_Wrap_counts⟩
theorem D_f_Fair_counts {K : PySem.W.Frag} (c : He.SaysD fa fn K) : ∃ fd, DefOk K T fs xs "Fair.counts" (He.fAd K ("Fair", some "counts")) f_Fair_counts fd :=
  have ⟨fd, F⟩ := c.def_ 28 (d := d_f_Fair_counts) rfl
  ⟨fd, meth 18 0, _, _, rfl, F, FunD.bindsN F (fun _ _ _ _ _ _ us hl => match us, hl with | [_, _, _, _], _ => rfl), c_f_Fair_counts⟩
theorem facts {w : World} {K : PySem.W.Frag} {h : Heap} {mg : Str → Option Value} (X : K.In h) (G : h.Ns mainGlobals mg) (c : He.SaysD fa fn K) (hx : ex K = true) (ct : He.SaysT fa fn tsx w K) : Facts w K mg (He.ga K) T fs xs where
  fn := fcons (have ⟨fd, D⟩ := D_f__wall c; ⟨_, _, fd, He.glo_ok X G (c.fact 0 (f := .glo "_wall") rfl), D⟩) (fcons (have ⟨fd, D⟩ := D_f_divisor c; ⟨_, _, fd, He.glo_ok X G (c.fact 1 (f := .glo "divisor") rfl), D⟩) (fcons (have ⟨fd, D⟩ := D_f_fraction c; ⟨_, _, fd, He.glo_ok X G (c.fact 2 (f := .glo "fraction") rfl), D⟩) (fcons (have ⟨fd, D⟩ := D_f_plus c; ⟨_, _, fd, He.glo_ok X G (c.fact 3 (f := .glo "plus") rfl), D⟩) (fcons (have ⟨fd, D⟩ := D_f_minus c; ⟨_, _, fd, He.glo_ok X G (c.fact 4 (f := .glo "minus") rfl), D⟩) (fcons (have ⟨fd, D⟩ := D_f_times c; ⟨_, _, fd, He.glo_ok X G (c.fact 5 (f := .glo "times") rfl), D⟩) (fcons (have ⟨fd, D⟩ := D_f_less c; ⟨_, _, fd, He.glo_ok X G (c.fact 6 (f := .glo "less") rfl), D⟩) (fcons (have ⟨fd, D⟩ := D_f_cost_of c; ⟨_, _, fd, He.glo_ok X G (c.fact 7 (f := .glo "cost_of") rfl), D⟩) (fcons (have ⟨fd, D⟩ := D_f_ways_of c; ⟨_, _, fd, He.glo_ok X G (c.fact 8 (f := .glo "ways_of") rfl), D⟩) (fcons (have ⟨fd, D⟩ := D_f_prices_of c; ⟨_, _, fd, He.glo_ok X G (c.fact 9 (f := .glo "prices_of") rfl), D⟩) (fcons (have ⟨fd, D⟩ := D_f_flow_of c; ⟨_, _, fd, He.glo_ok X G (c.fact 10 (f := .glo "flow_of") rfl), D⟩) (fcons (have ⟨fd, D⟩ := D_f_l_cell_at c; ⟨_, _, fd, He.glo_ok X G (c.fact 11 (f := .glo "_law_cell_at") rfl), D⟩) (fcons (have ⟨fd, D⟩ := D_f_l_low c; ⟨_, _, fd, He.glo_ok X G (c.fact 12 (f := .glo "_law_low") rfl), D⟩) (fcons (have ⟨fd, D⟩ := D_f_l_sum c; ⟨_, _, fd, He.glo_ok X G (c.fact 13 (f := .glo "_law_sum") rfl), D⟩) (fcons (have ⟨fd, D⟩ := D_f_l_less c; ⟨_, _, fd, He.glo_ok X G (c.fact 14 (f := .glo "_law_less") rfl), D⟩) (fcons (have ⟨fd, D⟩ := D_f_l_width_by c; ⟨_, _, fd, He.glo_ok X G (c.fact 15 (f := .glo "_law_width_by") rfl), D⟩) (fcons (have ⟨fd, D⟩ := D_f_l_cost c; ⟨_, _, fd, He.glo_ok X G (c.fact 16 (f := .glo "_law_cost") rfl), D⟩) (fcons (have ⟨fd, D⟩ := D_f_l_fraction c; ⟨_, _, fd, He.glo_ok X G (c.fact 17 (f := .glo "_law_fraction") rfl), D⟩) (fcons (have ⟨fd, D⟩ := D_f_l_farthest c; ⟨_, _, fd, He.glo_ok X G (c.fact 18 (f := .glo "_law_farthest") rfl), D⟩) (fcons (have ⟨fd, D⟩ := D_f_l_room_by c; ⟨_, _, fd, He.glo_ok X G (c.fact 19 (f := .glo "_law_room_by") rfl), D⟩) (fcons (have ⟨fd, D⟩ := D_f_l_widths_by c; ⟨_, _, fd, He.glo_ok X G (c.fact 20 (f := .glo "_law_widths_by") rfl), D⟩) (fcons (have ⟨fd, D⟩ := D_f_l_told c; ⟨_, _, fd, He.glo_ok X G (c.fact 21 (f := .glo "_law_told") rfl), D⟩) (fcons (have ⟨fd, D⟩ := D_f_law c; ⟨_, _, fd, He.glo_ok X G (c.fact 22 (f := .glo "law") rfl), D⟩) (fnil)))))))))))))))))))))))
  blt := fcons (He.free_ok X G (c.fact 23 (f := .free "len") rfl)) (fcons (He.free_ok X G (c.fact 24 (f := .free "abs") rfl)) (fcons (He.free_ok X G (c.fact 25 (f := .free "isinstance") rfl)) (fcons (He.free_ok X G (c.fact 26 (f := .free "int") rfl)) (fcons (He.free_ok X G (c.fact 27 (f := .free "bool") rfl)) (fcons (He.free_ok X G (c.fact 28 (f := .free "str") rfl)) (fcons (He.free_ok X G (c.fact 29 (f := .free "tuple") rfl)) (fcons (He.free_ok X G (c.fact 30 (f := .free "list") rfl)) (fcons (He.free_ok X G (c.fact 31 (f := .free "dict") rfl)) (fcons (He.free_ok X G (c.fact 32 (f := .free "range") rfl)) (fcons (He.free_ok X G (c.fact 33 (f := .free "max") rfl)) (fcons (He.free_ok X G (c.fact 34 (f := .free "min") rfl)) (fcons (He.free_ok X G (c.fact 35 (f := .free "sum") rfl)) (fcons (He.free_ok X G (c.fact 36 (f := .free "sorted") rfl)) (fcons (He.free_ok X G (c.fact 37 (f := .free "reversed") rfl)) (fcons (He.free_ok X G (c.fact 38 (f := .free "enumerate") rfl)) (fcons (He.free_ok X G (c.fact 39 (f := .free "zip") rfl)) (fcons (He.free_ok X G (c.fact 40 (f := .free "all") rfl)) (fcons (He.free_ok X G (c.fact 41 (f := .free "any") rfl)) (fcons (He.free_ok X G (c.fact 42 (f := .free "ord") rfl)) (fnil))))))))))))))))))))
  exc := fcons (have ⟨e1, e2, e3, e4⟩ := He.exc_ok (c.fact 44 (f := .exc "HouseError") rfl); ⟨He.glo_ok X G (c.fact 43 (f := .glo "HouseError") rfl), e1, e2, e3, e4⟩) (fcons (have ⟨e1, e2, e3, e4⟩ := He.exc_ok (c.fact 46 (f := .exc "NoFraction") rfl); ⟨He.glo_ok X G (c.fact 45 (f := .glo "NoFraction") rfl), e1, e2, e3, e4⟩) (fnil))
  glo := fnil
  noat := fnil
  meth := fcons (have ⟨fd, D⟩ := D_f_Flow_counts c; ⟨He.cls_ok (c.fact 48 (f := .cls "Flow") rfl), He.ma K (He.ga K "Flow") "counts", _, fd, He.meth_ok (c.fact 49 (f := .meth "Flow" "counts") rfl), D⟩) (fcons (have ⟨fd, D⟩ := D_f_Flow_breadth c; ⟨He.cls_ok (c.fact 48 (f := .cls "Flow") rfl), He.ma K (He.ga K "Flow") "breadth", _, fd, He.meth_ok (c.fact 50 (f := .meth "Flow" "breadth") rfl), D⟩) (fcons (have ⟨fd, D⟩ := D_f_Stack_counts c; ⟨He.cls_ok (c.fact 53 (f := .cls "Stack") rfl), He.ma K (He.ga K "Stack") "counts", _, fd, He.meth_ok (c.fact 54 (f := .meth "Stack" "counts") rfl), D⟩) (fcons (have ⟨fd, D⟩ := D_f_Stack_breadth c; ⟨He.cls_ok (c.fact 53 (f := .cls "Stack") rfl), He.ma K (He.ga K "Stack") "breadth", _, fd, He.meth_ok (c.fact 55 (f := .meth "Stack" "breadth") rfl), D⟩) (fcons (have ⟨fd, D⟩ := D_f_Wrap_counts c; ⟨He.cls_ok (c.fact 58 (f := .cls "Wrap") rfl), He.ma K (He.ga K "Wrap") "counts", _, fd, He.meth_ok (c.fact 59 (f := .meth "Wrap" "counts") rfl), D⟩) (fcons (have ⟨fd, D⟩ := D_f_Flow_breadth c; ⟨He.cls_ok (c.fact 58 (f := .cls "Wrap") rfl), He.ma K (He.ga K "Flow") "breadth", _, fd, (of_decide_eq_true (exOk hx 6)) ▸ (He.meth_ok (c.fact 60 (f := .meth "Wrap" "breadth") rfl)), D⟩) (fcons (have ⟨fd, D⟩ := D_f_Fair_counts c; ⟨He.cls_ok (c.fact 63 (f := .cls "Fair") rfl), He.ma K (He.ga K "Fair") "counts", _, fd, He.meth_ok (c.fact 64 (f := .meth "Fair" "counts") rfl), D⟩) (fcons (have ⟨fd, D⟩ := D_f_Flow_breadth c; ⟨He.cls_ok (c.fact 63 (f := .cls "Fair") rfl), He.ma K (He.ga K "Flow") "breadth", _, fd, (of_decide_eq_true (exOk hx 10)) ▸ (He.meth_ok (c.fact 65 (f := .meth "Fair" "breadth") rfl)), D⟩) (fnil))))))))
  init := fcons (⟨He.glo_ok X G (c.fact 47 (f := .glo "Flow") rfl), He.keep_ok (c.fact 51 (f := .keep "Flow") rfl), exOk hx 0, of_decide_eq_true (exOk hx 1), of_decide_eq_true (exOk hx 2)⟩) (fcons (⟨He.glo_ok X G (c.fact 52 (f := .glo "Stack") rfl), He.keep_ok (c.fact 56 (f := .keep "Stack") rfl), exOk hx 3, of_decide_eq_true (exOk hx 4), of_decide_eq_true (exOk hx 5)⟩) (fcons (⟨He.glo_ok X G (c.fact 57 (f := .glo "Wrap") rfl), He.keep_ok (c.fact 61 (f := .keep "Wrap") rfl), exOk hx 7, of_decide_eq_true (exOk hx 8), of_decide_eq_true (exOk hx 9)⟩) (fcons (⟨He.glo_ok X G (c.fact 62 (f := .glo "Fair") rfl), He.keep_ok (c.fact 66 (f := .keep "Fair") rfl), exOk hx 11, of_decide_eq_true (exOk hx 12), of_decide_eq_true (exOk hx 13)⟩) (fnil))))
  isa := fcons (⟨He.glo_ok X G (c.fact 47 (f := .glo "Flow") rfl), ⟨He.cls_ok (c.fact 48 (f := .cls "Flow") rfl), of_decide_eq_true (exOk hx 14), of_decide_eq_true (exOk hx 15), of_decide_eq_true (exOk hx 16), of_decide_eq_true (exOk hx 2)⟩, of_decide_eq_true (exOk hx 17)⟩) (fcons (⟨He.glo_ok X G (c.fact 47 (f := .glo "Flow") rfl), ⟨He.cls_ok (c.fact 53 (f := .cls "Stack") rfl), of_decide_eq_true (exOk hx 18), of_decide_eq_true (exOk hx 15), of_decide_eq_true (exOk hx 16), of_decide_eq_true (exOk hx 5)⟩, of_decide_eq_true (exOk hx 19)⟩) (fcons (⟨He.glo_ok X G (c.fact 47 (f := .glo "Flow") rfl), ⟨He.cls_ok (c.fact 58 (f := .cls "Wrap") rfl), of_decide_eq_true (exOk hx 20), of_decide_eq_true (exOk hx 15), of_decide_eq_true (exOk hx 16), of_decide_eq_true (exOk hx 9)⟩, of_decide_eq_true (exOk hx 21)⟩) (fcons (⟨He.glo_ok X G (c.fact 47 (f := .glo "Flow") rfl), ⟨He.cls_ok (c.fact 63 (f := .cls "Fair") rfl), of_decide_eq_true (exOk hx 22), of_decide_eq_true (exOk hx 15), of_decide_eq_true (exOk hx 16), of_decide_eq_true (exOk hx 13)⟩, of_decide_eq_true (exOk hx 23)⟩) (fnil))))
  gdc := fnil
end Hd
open PySem PySem.W PySem.Calls PyProof.Rows
set_option maxHeartbeats 0 in
theorem PySem.Challenge.cw_stylehouse_k29_fair_lines_holds : PySem.Challenge.rw_stylehouse_k29_fair_lines.Holds := by
  w_on; o_law
  refine HandSHeadRun.head_any (r := OpenLaw.row PySem.Challenge.rw_stylehouse_k29_fair_lines) (q := view (OpenLaw.row PySem.Challenge.rw_stylehouse_k29_fair_lines).prog [32]) (H := Hd.hk) (ob := Hd.ob) (M := 4000) (loose := Hd.loose) (d := HandSHeadRun.topDef (OpenLaw.row PySem.Challenge.rw_stylehouse_k29_fair_lines).prog 32) (kwd := []) Hd.ob_eq
    (by kernel_rfl) (fun s => by kernel_rfl) Hd.run (by kernel_rfl) (by kernel_rfl) (by kernel_rfl) (by rfl) (by first | assumption | decide +kernel) (by decide +kernel) ⟨rfl, rfl, rfl, rfl, rfl, by decide +kernel⟩ ?hw ?hc
  case hw => w_witness2
  case hc =>
    refine AM.walk_ofEB (l := PySem.Challenge.rw_stylehouse_k29_fair_lines) (n := 63) (k := 2 * 12) (x := "_law_script") (CX := fun w => L2.CX (PySem.Challenge.rw_stylehouse_k29_fair_lines).prog w) rfl (by decide) (by kernel_rfl) ⟨rfl, by decide, by decide⟩ ?F ?X
    case X =>
      intro w H s e s' h
      obtain ⟨_, _, _, _, _, _, _, _, _, _, _, _, z⟩ := h
      exact z.elim
    intro w mg fa h Y G hmg0
    obtain ⟨K, KX, c⟩ := Y
    have hmg : mg ("law" : PySem.Str) = some (.ref fa) := by
      have e : (HandSHeadRun.topDef (OpenLaw.row PySem.Challenge.rw_stylehouse_k29_fair_lines).prog 32).name = ("law" : PySem.Str) := by kernel_rfl
      rw [← e]
      exact hmg0
    have Fx := Hd.facts KX G c.t.d c.more c.t
    obtain ⟨fd, F⟩ := c.t.d.def_ 22 (d := Hd.d_f_law) rfl
    have e := hmg.symm.trans (He.glo_ok KX G (c.t.d.fact 22 (f := .glo "law") rfl))
    cases e
    have b := L2.FunD.bindsA (ps := ["_law_script"]) F fun _ _ _ _ _ _ us hl => match us, hl with | [_], _ => rfl
    refine ⟨K, fd, AM.spI K (He.ga K) (AM.orc Hd.T 12) "law", KX, fun s v => b s [v] rfl, fun H a ns hl hb _ hS => AM.law_ok Fx (by decide +kernel) hS (LawProof.law_holds ns hl hb), fun base KB GB => ?_⟩
    exact AM.fn_ok (P := (PySem.Challenge.rw_stylehouse_k29_fair_lines).prog) (w := w) (base := base) Fx 12 "law" _ f_law fd ⟨Hd.top 32, _, _, rfl, F, L2.FunD.bindsN F (fun _ _ _ _ _ _ us hl => match us, hl with | [_], _ => rfl), Hd.c_f_law⟩
end
#print axioms PySem.Challenge.cw_stylehouse_k29_fair_lines_holds
