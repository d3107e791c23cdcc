import PyProof.Rows.All
import Wide.All
import OpenK.AllK
import Wide.FinOn
import HandS.ForMost
import HandS.ForExc
import HandS.Wide
import HandS.IsInst
import HandS.Walk
import HandS.Deep
import HandS.Steps
import HandS.SortInts
import HandS.TryOnly
import HandS.More
import HandS.Rev
import HandS.Ends
import HandS.EndBits
import HandS.Defaults
import HandS.Head0
import HandS.Head1
import HandS.Head2
import HandS.HeadEnd
import HandS.HeadHook1
import HandS.HeadHook2
import PySem.Challenge.RW_stylehouse_k05_totals
set_option Elab.async false
section
set_option linter.all false
set_option maxRecDepth 100000
/-! AM, first part: values, store, syntax, weakest preconditions. -/
namespace AM
open PySem L2

inductive Va where
  | non | bl (b : Bool) | int (i : Int) | str (x : Str)
  | tup (xs : List Va) | lst (xs : List Va) | dct (kvs : List (Key × Va)) | loc (n : Nat) | scr (ns : List Int)

inductive Ob where
  | lst (xs : List Va) | dct (kvs : List (Key × Va)) | ins (C : Str) (fs : List (Str × Va)) | dead

abbrev Sto := List Ob
abbrev Env := List (Option Va)
abbrev PV := Va → Sto → Prop
abbrev PX := Str → Sto → Prop
abbrev PL := List Va → Sto → Prop

inductive Bop where | add | sub | mul | fdiv | mod | pow
  deriving DecidableEq
inductive Cop where | eq | ne | lt | le | gt | ge | isin | notin
  deriving DecidableEq
inductive Ty where | int | bool | str | tuple | list | dict
  deriving DecidableEq
mutual
inductive Tg where | name (i : Nat) | tup (ts : Tgs)
inductive Tgs where | nil | cons (t : Tg) (ts : Tgs)
end
inductive Bf where | list | tuple | sum | max1 | min1 | max2 | min2 | sorted | ord | str | int | all | any
  deriving DecidableEq
inductive Mf where | append | pop | extend | insert | join | index | clear
  deriving DecidableEq

mutual
inductive Ex where
  | var (i : Nat) | int (i : Int) | bl (b : Bool) | non | str (x : Str) | glob (x : Str)
  | tup (es : Exs) | lst (es : Exs)
  | bin (op : Bop) (a b : Ex) | neg (a : Ex)
  | cmp (op : Cop) (a b : Ex) | isN (a : Ex) | notN (a : Ex)
  | chain (op op' : Cop) (a b c : Ex)
  | tst (t : Te)
  | ite (t : Te) (a b : Ex)
  | call (f : Str) (es : Exs)
  | len (a : Ex) | abs (a : Ex) | isi (a : Ex) (t : Ty)
  | sub (a i : Ex)
  | slice (a : Ex) (lo hi : Oe)
  | blt (f : Bf) (es : Exs)
  | mth (m : Mf) (o : Ex) (es : Exs)
  | comp (own : List Nat) (elt : Ex) (tg : Tg) (it : It) (cond : Tes0)
inductive Oe where
  | none | some (e : Ex)
inductive It where
  | seq (e : Ex) | range1 (a : Ex) | range2 (a b : Ex) | enum (e : Ex) | zip (a b : Ex) | rev (e : Ex)
inductive Tes0 where
  | none | some (t : Te)
inductive Te where
  | val (e : Ex) | not (t : Te) | and (ts : Tes) | or (ts : Tes)
inductive Tes where
  | one (t : Te) | cons (t : Te) (ts : Tes)
inductive Exs where
  | nil | cons (e : Ex) (es : Exs)
end

mutual
inductive Sm where
  | set (i : Nat) (e : Ex) | ret (e : Ex) | retN | pass | brk | cont
  | drop (e : Ex)
  | ite (t : Te) (a b : Sms)
  | whil (t : Te) (b : Sms)
  | raise (x : Str)
  | asg (tg : Tg) (e : Ex)
  | setSub (o i e : Ex)
  | aug (i : Nat) (op : Bop) (e : Ex)
  | setC (i : Nat) (own : List Nat) (elt : Ex) (tg : Tg) (it : It) (cond : Tes0)
  | for_ (tg : Tg) (it : It) (b : Sms)
inductive Sms where
  | nil | cons (s : Sm) (ss : Sms)
end

structure Fn where
  ps : List Str
  N : List Str
  body : Sms

def gt : Env → Nat → Option Va
  | [], _ => none
  | o :: _, 0 => o
  | _ :: r, i + 1 => gt r i
theorem gt_eq : ∀ (l : Env) (i : Nat) (v : Va), gt l i = some v ↔ l[i]? = some (some v)
  | [], i, v => by simp [gt]
  | o :: r, 0, v => by simp [gt]
  | o :: r, i + 1, v => by simp [gt, gt_eq r i v]

/-- a list's items: a frozen one, or one of the store -/
def LV (S : Sto) (v : Va) (xs : List Va) : Prop := v = .lst xs ∨ ∃ k, v = .loc k ∧ S[k]? = some (.lst xs)

/-- flat data -/
def flat : Va → Bool
  | .non => true | .bl _ => true | .int _ => true | .str _ => true
  | .tup _ => false | .lst _ => false | .dct _ => false | .loc _ => false | .scr _ => false
def scal : Va → Va → Bool
  | .int _, .int _ => true | .bl _, .bl _ => true | .str _, .str _ => true | .non, .non => true
  | _, _ => false
def eqF : Va → Va → Bool
  | .int i, .int j => decide (i = j) | .bl a, .bl b => decide (a = b) | .str a, .str b => decide (a = b) | .non, .non => true
  | _, _ => false

/-- == of flat things, a truth being a number too -/
def eqW : Va → Va → Bool
  | .non, .non => true
  | .bl a, .bl b => a == b
  | .bl a, .int b => (if a then 1 else 0) == b
  | .int a, .bl b => a == (if b then 1 else 0)
  | .int a, .int b => a == b
  | .str a, .str b => a == b
  | _, _ => false
mutual
/-- data at any depth, read through the store -/
inductive DV (S : Sto) : Va → PyData → Prop
  | non : DV S .non .none
  | bl (b : Bool) : DV S (.bl b) (.bool b)
  | int (i : Int) : DV S (.int i) (.int i)
  | str (x : Str) : DV S (.str x) (.str x)
  | tup {xs : List Va} {ds : List PyData} : DVs S xs ds → DV S (.tup xs) (.tuple ds)
  | lst {xs : List Va} {ds : List PyData} : DVs S xs ds → DV S (.lst xs) (.list ds)
  | loc {k : Nat} {xs : List Va} {ds : List PyData} : S[k]? = some (.lst xs) → DVs S xs ds → DV S (.loc k) (.list ds)
inductive DVs (S : Sto) : List Va → List PyData → Prop
  | nil : DVs S [] []
  | cons {v : Va} {vs : List Va} {d : PyData} {ds : List PyData} : DV S v d → DVs S vs ds → DVs S (v :: vs) (d :: ds)
end

/-- a product of less than some 134 million bits -/
def CMulA (i j : Int) : Prop := i.natAbs.log2 + j.natAbs.log2 < 134000000
def CDivA (j : Int) : Prop := j ≠ 0 ∧ j.natAbs.log2 < 9000

/-- two lists' items put together in a new list -/
def wCat (x y : Va) (S : Sto) (P : PV) : Prop := ∃ xs, LV S x xs ∧ ∃ ys, LV S y ys ∧ xs.length + ys.length ≤ 1000000 ∧ P (.loc S.length) (S ++ [.lst (xs ++ ys)])
def wBin : Bop → Va → Va → Sto → PV → Prop
  | .add, .int i, .int j, S, P => P (.int (i + j)) S
  | .add, .str i, .str j, S, P => i.length + j.length ≤ sizeLine ∧ P (.str (i ++ j)) S
  | .add, .lst xs, y, S, P => wCat (.lst xs) y S P
  | .add, .loc k, y, S, P => wCat (.loc k) y S P
  | .add, .tup xs, .tup ys, S, P => xs ≠ [] ∧ xs.length + ys.length ≤ 1000000 ∧ P (.tup (xs ++ ys)) S
  | .sub, .int i, .int j, S, P => P (.int (i - j)) S
  | .mul, .int i, .int j, S, P => CMulA i j ∧ P (.int (i * j)) S
  | .fdiv, .int i, .int j, S, P => CDivA j ∧ P (.int (i.fdiv j)) S
  | .mod, .int i, .int j, S, P => j ≠ 0 ∧ P (.int (i.fmod j)) S
  | .pow, .int i, .int j, S, P => CPow i j ∧ P (.int (i ^ j.toNat)) S
  | _, _, _, _, _ => False

def wNeg : Va → Sto → PV → Prop
  | .int i, S, P => P (.int (-i)) S
  | _, _, _ => False

def wCmp : Cop → Va → Va → Sto → PV → Prop
  | .lt, .int i, .int j, S, P => P (.bl (decide (i < j))) S
  | .le, .int i, .int j, S, P => P (.bl (decide (i ≤ j))) S
  | .gt, .int i, .int j, S, P => P (.bl (decide (j < i))) S
  | .ge, .int i, .int j, S, P => P (.bl (decide (j ≤ i))) S
  | .isin, .str x, .str y, S, P => x.length = 1 ∧ P (.bl (decide (x.cps.getD 0 0 ∈ y.cps.toList))) S
  | .notin, .str x, .str y, S, P => x.length = 1 ∧ P (.bl (!decide (x.cps.getD 0 0 ∈ y.cps.toList))) S
  | .isin, x, .tup xs, S, P => flat x = true ∧ xs.all flat = true ∧ P (.bl (xs.any fun z => eqW z x)) S
  | .isin, x, y, S, P => ∃ d ds, DV S x d ∧ DV S y (.list ds) ∧ SeqAt.shaped d = true ∧ SeqAt.shaped (.list ds) = true ∧ P (.bl (ds.any fun z => PyData.eqv z d)) S
  | .notin, x, y, S, P => ∃ d ds, DV S x d ∧ DV S y (.list ds) ∧ SeqAt.shaped d = true ∧ SeqAt.shaped (.list ds) = true ∧ P (.bl (!ds.any fun z => PyData.eqv z d)) S
  | .eq, x, y, S, P => (scal x y = true ∧ P (.bl (eqF x y)) S) ∨ ∃ d e, DV S x d ∧ DV S y e ∧ SeqAt.shaped d = true ∧ SeqAt.shaped e = true ∧ P (.bl (PyData.eqv d e)) S
  | .ne, x, y, S, P => (scal x y = true ∧ P (.bl (!eqF x y)) S) ∨ ∃ d e, DV S x d ∧ DV S y e ∧ SeqAt.shaped d = true ∧ SeqAt.shaped e = true ∧ P (.bl (!PyData.eqv d e)) S
  | _, _, _, _, _ => False

def isNon : Va → Bool
  | .non => true | _ => false

def wLen : Va → Sto → PV → Prop
  | .tup xs, S, P => P (.int xs.length) S
  | .lst xs, S, P => P (.int xs.length) S
  | .loc k, S, P => ∃ xs, S[k]? = some (.lst xs) ∧ P (.int xs.length) S
  | .str x, S, P => x.length ≤ sizeLine ∧ P (.int x.length) S
  | .scr ns, S, P => P (.int ns.length) S
  | _, _, _ => False

def wAbs : Va → Sto → PV → Prop
  | .int i, S, P => P (.int (if i < 0 then -i else i)) S
  | _, _, _ => False

def tyIs (S : Sto) : Va → Ty → Option Bool
  | .non, _ => some false
  | .bl _, t => some (t == .bool || t == .int)
  | .int _, t => some (t == .int)
  | .str _, t => some (t == .str)
  | .tup _, t => some (t == .tuple)
  | .lst _, t => some (t == .list)
  | .dct _, t => some (t == .dict)
  | .scr _, t => some (t == .list)
  | .loc k, t => match S[k]? with
    | some (.lst _) => some (t == .list)
    | some (.dct _) => some (t == .dict)
    | _ => none

/-- o[i], by a place from the front or the back -/
def wSub : Va → Va → Sto → PV → Prop
  | .tup xs, .int i, S, P => ∃ v, L2.atI xs i = some v ∧ P v S
  | .lst xs, .int i, S, P => ∃ v, L2.atI xs i = some v ∧ P v S
  | .loc k, .int i, S, P => ∃ xs, S[k]? = some (.lst xs) ∧ ∃ v, L2.atI xs i = some v ∧ P v S
  | .scr ns, .int i, S, P => ∃ n, L2.atI ns i = some n ∧ P (.int n) S
  | .str z, .int i, S, P => ∃ c, z.length ≤ sizeLine ∧ L2.atI z.cps.toList i = some c ∧ P (.str ⟨#[c]⟩) S
  | _, _, _, _ => False

/-- a value's truth -/
def tru (S : Sto) : Va → Option Bool
  | .non => some false
  | .bl b => some b
  | .int i => some (i != 0)
  | .lst xs => some (!xs.isEmpty)
  | .tup xs => some (!xs.isEmpty)
  | .loc k => match S[k]? with
    | some (.lst xs) => some (!xs.isEmpty)
    | _ => none
  | _ => none

/-- a slice's parts -/
def cutA {α : Type} (xs : List α) (lo hi : Option Int) : List α := (xs.drop (HT.sIx xs.length 0 lo)).take (HT.sIx xs.length xs.length hi - HT.sIx xs.length 0 lo)
def wSlice : Va → Option Int → Option Int → Sto → PV → Prop
  | .lst xs, lo, hi, S, P => P (.loc S.length) (S ++ [.lst (cutA xs lo hi)])
  | .loc k, lo, hi, S, P => ∃ xs, S[k]? = some (.lst xs) ∧ P (.loc S.length) (S ++ [.lst (cutA xs lo hi)])
  | .scr ns, lo, hi, S, P => P (.loc S.length) (S ++ [.lst ((cutA ns lo hi).map Va.int)])
  | .tup xs, lo, hi, S, P => ¬ (HT.sIx xs.length 0 lo = 0 ∧ HT.sIx xs.length xs.length hi = xs.length) ∧ P (.tup (cutA xs lo hi)) S
  | .str z, lo, hi, S, P => z.length ≤ sizeLine ∧ P (.str (L2.cutS z lo hi)) S
  | _, _, _, _, _ => False

def wBlt : Bf → List Va → Sto → PV → Prop
  | .list, [.lst xs], S, P => P (.loc S.length) (S ++ [.lst xs])
  | .list, [.tup xs], S, P => P (.loc S.length) (S ++ [.lst xs])
  | .list, [.scr ns], S, P => P (.loc S.length) (S ++ [.lst (ns.map Va.int)])
  | .list, [.loc k], S, P => ∃ xs, S[k]? = some (.lst xs) ∧ P (.loc S.length) (S ++ [.lst xs])
  | .tuple, [.lst xs], S, P => P (.tup xs) S
  | .tuple, [.tup xs], S, P => P (.tup xs) S
  | .tuple, [.loc k], S, P => ∃ xs, S[k]? = some (.lst xs) ∧ P (.tup xs) S
  | .sum, [v], S, P => ∃ ns : List Int, LV S v (ns.map Va.int) ∧ P (.int ns.sum) S
  | .max1, [v], S, P => ∃ ns : List Int, LV S v (ns.map Va.int) ∧ 0 < ns.length ∧ ∀ m, m ∈ ns → (∀ y, y ∈ ns → y ≤ m) → P (.int m) S
  | .min1, [v], S, P => ∃ ns : List Int, LV S v (ns.map Va.int) ∧ 0 < ns.length ∧ ∀ m, m ∈ ns → (∀ y, y ∈ ns → m ≤ y) → P (.int m) S
  | .max2, [.int i, .int j], S, P => P (.int (if j > i then j else i)) S
  | .min2, [.int i, .int j], S, P => P (.int (if j < i then j else i)) S
  | .sorted, [v], S, P => ∃ ns : List Int, LV S v (ns.map Va.int) ∧ ∀ ns' : List Int, ns'.Perm ns → ns'.Pairwise (· ≤ ·) → P (.loc S.length) (S ++ [.lst (ns'.map Va.int)])
  | .ord, [.str x], S, P => x.length = 1 ∧ P (.int (x.cps.getD 0 0 : Nat)) S
  | .str, [.int i], S, P => i.natAbs.log2 < 1920 ∧ P (.str (toString i)) S
  | .int, [.str a], S, P => ∃ n, PySem.intText? a = some n ∧ a.length ≤ 640 ∧ P (.int n) S
  | .all, [v], S, P => ∃ bs : List Bool, LV S v (bs.map Va.bl) ∧ P (.bl (bs.all id)) S
  | .any, [v], S, P => ∃ bs : List Bool, LV S v (bs.map Va.bl) ∧ P (.bl (bs.any id)) S
  | _, _, _, _ => False

/-- what a method's own thing must be, ahead of the rest -/
def mOk (S : Sto) : Mf → Va → Prop
  | .join, v => ∃ a, v = .str a
  | _, v => ∃ xs, LV S v xs
def wMth : Mf → Va → List Va → Sto → PV → Prop
  | .append, .loc k, [y], S, P => ∃ xs, S[k]? = some (.lst xs) ∧ xs.length < 1000000 ∧ P .non (S.set k (.lst (xs ++ [y])))
  | .pop, .loc k, [], S, P => ∃ xs, S[k]? = some (.lst xs) ∧ ∃ y, xs[xs.length - 1]? = some y ∧ P y (S.set k (.lst xs.dropLast))
  | .extend, .loc k, [z], S, P => ∃ xs, S[k]? = some (.lst xs) ∧ ∃ zs, LV S z zs ∧ xs.length + zs.length ≤ 1000000 ∧ P .non (S.set k (.lst (xs ++ zs)))
  | .insert, .loc k, [.int i, y], S, P => ∃ xs, S[k]? = some (.lst xs) ∧ xs.length < 1000000 ∧ 0 ≤ i ∧ i < 2 ^ 63 ∧ P .non (S.set k (.lst (xs.take i.toNat ++ [y] ++ xs.drop i.toNat)))
  | .join, .str a, [z], S, P => ∃ ys : List Str, (z = .tup (ys.map Va.str) ∨ LV S z (ys.map Va.str)) ∧ (ys.map PySem.Str.length).sum + ys.length * a.length ≤ 16777216 ∧ P (.str (Txt.join a ys)) S
  | .index, o, [y], S, P => ∃ d ds j z, DV S o (.list ds) ∧ DV S y d ∧ SeqAt.shaped (.list ds) = true ∧ SeqAt.shaped d = true ∧ ds[j]? = some z ∧ PyData.eqv z d = true ∧ (∀ (m : Nat) (z' : PyData), m < j → ds[m]? = some z' → PyData.eqv z' d = false) ∧ P (.int (j : Nat)) S
  | .clear, .loc k, [], S, P => ∃ xs, S[k]? = some (.lst xs) ∧ P .non (S.set k (.lst []))
  | _, _, _, _, _ => False

/-- what a for, a comprehension walks: its things, what must stand at each turn -/
abbrev PI_ := List Va → (Sto → Prop) → Sto → Prop
def wSeq : Va → Sto → PI_ → Prop
  | .lst xs, S, P => P xs (fun _ => True) S
  | .tup xs, S, P => P xs (fun _ => True) S
  | .scr ns, S, P => P (ns.map Va.int) (fun _ => True) S
  | .str z, S, P => P (z.cps.toList.map fun c => Va.str ⟨#[c]⟩) (fun _ => True) S
  | .loc k, S, P => ∃ xs, S[k]? = some (.lst xs) ∧ P xs (fun S' => S'[k]? = some (.lst xs)) S
  | _, _, _ => False
/-- a list alone -/
def wLst : Va → Sto → PI_ → Prop
  | .lst xs, S, P => P xs (fun _ => True) S
  | .scr ns, S, P => P (ns.map Va.int) (fun _ => True) S
  | .loc k, S, P => ∃ xs, S[k]? = some (.lst xs) ∧ P xs (fun S' => S'[k]? = some (.lst xs)) S
  | _, _, _ => False
def enumV : Nat → List Va → List Va
  | _, [] => []
  | n, x :: xs => .tup [.int (n : Nat), x] :: enumV (n + 1) xs
def zipV : List Va → List Va → List Va
  | x :: xs, y :: ys => .tup [x, y] :: zipV xs ys
  | _, _ => []
def rangeV (lo : Int) (n : Nat) : List Va := (List.range n).map fun (i : Nat) => Va.int (lo + i)
/-- the items that a target takes apart -/
def partsOf (S : Sto) : Va → Option (List Va)
  | .tup xs => some xs
  | .lst xs => some xs
  | .loc k => match S[k]? with
    | some (.lst xs) => some xs
    | _ => none
  | _ => none
mutual
def bindT (S : Sto) : Tg → Va → Env → Option Env
  | .name i, v, Γ => some (Γ.set i (some v))
  | .tup ts, v, Γ => match partsOf S v with
    | some xs => bindTs S ts xs Γ
    | none => none
def bindTs (S : Sto) : Tgs → List Va → Env → Option Env
  | .nil, [], Γ => some Γ
  | .cons t ts, x :: xs, Γ => match bindT S t x Γ with
    | some Γ1 => bindTs S ts xs Γ1
    | none => none
  | _, _, _ => none
end
def wipeA (Γ : Env) : List Nat → Env
  | [] => Γ
  | v :: vs => (wipeA Γ vs).set v none
/-- a comprehension's turns: d the place of the list that grows -/
def cpL (bind : Va → Sto → Option Env) (t : Env → Sto → (Bool → Sto → Prop) → Prop) (e : Env → Sto → PV → Prop) (G : Sto → Prop) (d : Nat) (P : PV) : List Va → Sto → Prop
  | [], S => P (.loc d) S
  | x :: xs, S => ∃ Γ1, bind x S = some Γ1 ∧ t Γ1 S fun b S2 => if b = true then e Γ1 S2 fun v S3 => ∃ acc, S3[d]? = some (.lst acc) ∧ acc.length < 1000000 ∧ G (S3.set d (.lst (acc ++ [v]))) ∧ cpL bind t e G d P xs (S3.set d (.lst (acc ++ [v])))
      else G S2 ∧ cpL bind t e G d P xs S2
abbrev Orc := Str → List Va → Sto → PV → PX → Prop

mutual
def W (C : Orc) : Ex → Env → Sto → PV → PX → Prop
  | .var i, Γ, S, P, _ => ∃ v, gt Γ i = some v ∧ P v S
  | .int i, _, S, P, _ => P (.int i) S
  | .bl b, _, S, P, _ => P (.bl b) S
  | .non, _, S, P, _ => P .non S
  | .str x, _, S, P, _ => P (.str x) S
  | .glob _, _, _, _, _ => False
  | .tup es, Γ, S, P, E => WL C es Γ S (fun vs S1 => vs.length ≤ 1000 ∧ P (.tup vs) S1) E
  | .lst es, Γ, S, P, E => WL C es Γ S (fun vs S1 => vs.length ≤ 1000 ∧ P (.loc S1.length) (S1 ++ [.lst vs])) E
  | .bin op a b, Γ, S, P, E => W C a Γ S (fun x S1 => W C b Γ S1 (fun y S2 => wBin op x y S2 P) E) E
  | .neg a, Γ, S, P, E => W C a Γ S (fun x S1 => wNeg x S1 P) E
  | .cmp op a b, Γ, S, P, E => W C a Γ S (fun x S1 => W C b Γ S1 (fun y S2 => wCmp op x y S2 P) E) E
  | .isN a, Γ, S, P, E => W C a Γ S (fun x S1 => P (.bl (isNon x)) S1) E
  | .notN a, Γ, S, P, E => W C a Γ S (fun x S1 => P (.bl (!isNon x)) S1) E
  | .chain op op' a b c, Γ, S, P, E => W C a Γ S (fun x S1 => W C b Γ S1 (fun y S2 => wCmp op x y S2 (fun z S3 => ∃ k, z = .bl k ∧ if k = true then W C c Γ S3 (fun u S4 => wCmp op' y u S4 P) E else P (.bl false) S3)) E) E
  | .tst t, Γ, S, P, E => WB C t Γ S P E
  | .ite t a b, Γ, S, P, E => WT C t Γ S (fun k S1 => if k = true then W C a Γ S1 P E else W C b Γ S1 P E) E
  | .call f es, Γ, S, P, E => WL C es Γ S (fun vs S1 => C f vs S1 P E) E
  | .len a, Γ, S, P, E => W C a Γ S (fun x S1 => wLen x S1 P) E
  | .abs a, Γ, S, P, E => W C a Γ S (fun x S1 => wAbs x S1 P) E
  | .isi a t, Γ, S, P, E => W C a Γ S (fun x S1 => ∃ b, tyIs S1 x t = some b ∧ P (.bl b) S1) E
  | .sub a i, Γ, S, P, E => W C a Γ S (fun x S1 => W C i Γ S1 (fun y S2 => wSub x y S2 P) E) E
  | .slice a lo hi, Γ, S, P, E => W C a Γ S (fun x S1 => WOe C lo Γ S1 (fun l S2 => WOe C hi Γ S2 (fun h S3 => wSlice x l h S3 P) E) E) E
  | .blt f es, Γ, S, P, E => WL C es Γ S (fun vs S1 => wBlt f vs S1 P) E
  | .mth m o es, Γ, S, P, E => W C o Γ S (fun x S1 => mOk S1 m x ∧ WL C es Γ S1 (fun vs S2 => wMth m x vs S2 P) E) E
  | .comp own elt tg it cond, Γ, S, P, E => WI C it Γ S (fun xs G S1 => G (S1 ++ [.lst []]) ∧ cpL (fun x S => bindT S tg x (wipeA Γ own)) (fun Γ S Q => WT0 C cond Γ S Q) (fun Γ S Q => W C elt Γ S Q (fun _ _ => False)) G S1.length P xs (S1 ++ [.lst []])) E
def WOe (C : Orc) : Oe → Env → Sto → (Option Int → Sto → Prop) → PX → Prop
  | .none, _, S, P, _ => P none S
  | .some e, Γ, S, P, E => W C e Γ S (fun v S1 => ∃ i, v = .int i ∧ P (some i) S1) E
def WI (C : Orc) : It → Env → Sto → PI_ → PX → Prop
  | .seq e, Γ, S, P, E => W C e Γ S (fun v S1 => wSeq v S1 P) E
  | .range1 a, Γ, S, P, E => W C a Γ S (fun v S1 => ∃ i : Int, v = .int i ∧ -(2 ^ 62) ≤ i ∧ i < 2 ^ 62 ∧ P (rangeV 0 i.toNat) (fun _ => True) S1) E
  | .range2 a b, Γ, S, P, E => W C a Γ S (fun v S1 => W C b Γ S1 (fun u S2 => ∃ i : Int, v = .int i ∧ ∃ j : Int, u = .int j ∧ (-(2 ^ 62) ≤ i ∧ i < 2 ^ 62 ∧ -(2 ^ 62) ≤ j ∧ j < 2 ^ 62) ∧ P (rangeV i (j - i).toNat) (fun _ => True) S2) E) E
  | .enum e, Γ, S, P, E => W C e Γ S (fun v S1 => wLst v S1 fun xs G S2 => P (enumV 0 xs) G S2) E
  | .zip a b, Γ, S, P, E => W C a Γ S (fun v S1 => W C b Γ S1 (fun u S2 => wLst v S2 fun xs G S3 => wLst u S3 fun ys G' S4 => P (zipV xs ys) (fun S' => G S' ∧ G' S') S4) E) E
  | .rev e, Γ, S, P, E => W C e Γ S (fun v S1 => wLst v S1 fun xs G S2 => P xs.reverse G S2) E
def WT0 (C : Orc) : Tes0 → Env → Sto → (Bool → Sto → Prop) → Prop
  | .none, _, S, P => P true S
  | .some t, Γ, S, P => WT C t Γ S P (fun _ _ => False)
/-- a test -/
def WT (C : Orc) : Te → Env → Sto → (Bool → Sto → Prop) → PX → Prop
  | .val e, Γ, S, P, E => W C e Γ S (fun v S1 => ∃ b, tru S1 v = some b ∧ P b S1) E
  | .not t, Γ, S, P, E => WT C t Γ S (fun b S1 => P (!b) S1) E
  | .and ts, Γ, S, P, E => WA C ts Γ S P E
  | .or ts, Γ, S, P, E => WO C ts Γ S P E
def WA (C : Orc) : Tes → Env → Sto → (Bool → Sto → Prop) → PX → Prop
  | .one t, Γ, S, P, E => WT C t Γ S P E
  | .cons t ts, Γ, S, P, E => WT C t Γ S (fun b S1 => if b = true then WA C ts Γ S1 P E else P false S1) E
def WO (C : Orc) : Tes → Env → Sto → (Bool → Sto → Prop) → PX → Prop
  | .one t, Γ, S, P, E => WT C t Γ S P E
  | .cons t ts, Γ, S, P, E => WT C t Γ S (fun b S1 => if b = true then P true S1 else WO C ts Γ S1 P E) E
/-- a test as a value: its parts but the last are truths -/
def WB (C : Orc) : Te → Env → Sto → PV → PX → Prop
  | .val e, Γ, S, P, E => W C e Γ S P E
  | .not t, Γ, S, P, E => WB C t Γ S (fun v S1 => ∃ b, v = .bl b ∧ P (.bl (!b)) S1) E
  | .and ts, Γ, S, P, E => WBA C ts Γ S P E
  | .or ts, Γ, S, P, E => WBO C ts Γ S P E
def WBA (C : Orc) : Tes → Env → Sto → PV → PX → Prop
  | .one t, Γ, S, P, E => WB C t Γ S P E
  | .cons t ts, Γ, S, P, E => WB C t Γ S (fun v S1 => ∃ b, v = .bl b ∧ if b = true then WBA C ts Γ S1 P E else P (.bl false) S1) E
def WBO (C : Orc) : Tes → Env → Sto → PV → PX → Prop
  | .one t, Γ, S, P, E => WB C t Γ S P E
  | .cons t ts, Γ, S, P, E => WB C t Γ S (fun v S1 => ∃ b, v = .bl b ∧ if b = true then P (.bl true) S1 else WBO C ts Γ S1 P E) E
def WL (C : Orc) : Exs → Env → Sto → PL → PX → Prop
  | .nil, _, S, P, _ => P [] S
  | .cons e es, Γ, S, P, E => W C e Γ S (fun v S1 => WL C es Γ S1 (fun vs S2 => P (v :: vs) S2) E) E
end

abbrev PE_ := Env → Sto → Prop
def augI : Bop → Int → Int → Option Int
  | .add, n, m => some (n + m) | .sub, n, m => some (n - m) | _, _, _ => none
structure AEnds where
  nx : PE_
  rt : PV
  bk : PE_ := fun _ _ => False
  ct : PE_ := fun _ _ => False
  ex : Str → Env → Sto → Prop := fun _ _ _ => False

/-- a while, n turns at most -/
def whN (t : Env → Sto → (Bool → Sto → Prop) → Prop) (b : PE_ → Env → Sto → Prop) (nx : PE_) : Nat → PE_
  | 0, _, _ => False
  | n + 1, Γ, S => t Γ S fun k S1 => if k = true then b (whN t b nx n) Γ S1 else nx Γ S1

/-- a for's turns -/
def frL (bind : Va → Env → Sto → Option Env) (b : PE_ → Env → Sto → Prop) (G : Sto → Prop) (nx : PE_) : List Va → PE_
  | [], Γ, S => nx Γ S
  | x :: xs, Γ, S => ∃ Γ1, bind x Γ S = some Γ1 ∧ b (fun Γ' S' => G S' ∧ frL bind b G nx xs Γ' S') Γ1 S

mutual
def WS (C : Orc) : Sm → AEnds → Env → Sto → Prop
  | .set i e, D, Γ, S => W C e Γ S (fun v S1 => D.nx (Γ.set i (some v)) S1) (fun x S1 => D.ex x Γ S1)
  | .ret e, D, Γ, S => W C e Γ S D.rt (fun x S1 => D.ex x Γ S1)
  | .retN, D, _, S => D.rt .non S
  | .pass, D, Γ, S => D.nx Γ S
  | .brk, D, Γ, S => D.bk Γ S
  | .cont, D, Γ, S => D.ct Γ S
  | .drop e, D, Γ, S => W C e Γ S (fun _ S1 => D.nx Γ S1) (fun x S1 => D.ex x Γ S1)
  | .ite t a b, D, Γ, S => WT C t Γ S (fun k S1 => if k = true then WSs C a D Γ S1 else WSs C b D Γ S1) (fun x S1 => D.ex x Γ S1)
  | .whil t b, D, Γ, S => ∃ n, whN (fun Γ S P => WT C t Γ S P (fun x S1 => D.ex x Γ S1)) (fun Nx Γ S => WSs C b { D with nx := Nx, ct := Nx, bk := D.nx } Γ S) D.nx n Γ S
  | .raise x, D, Γ, S => D.ex x Γ S
  | .asg tg e, D, Γ, S => W C e Γ S (fun v S1 => ∃ Γ1, bindT S1 tg v Γ = some Γ1 ∧ D.nx Γ1 S1) (fun x S1 => D.ex x Γ S1)
  | .setSub o i e, D, Γ, S => W C e Γ S (fun v S1 => W C o Γ S1 (fun x S2 => W C i Γ S2 (fun y S3 => ∃ k, x = .loc k ∧ ∃ j, y = .int j ∧ ∃ xs, S3[k]? = some (.lst xs) ∧ ∃ n, L2.ixN xs.length j = some n ∧ D.nx Γ (S3.set k (.lst (xs.set n v)))) (fun x S1 => D.ex x Γ S1)) (fun x S1 => D.ex x Γ S1)) (fun x S1 => D.ex x Γ S1)
  | .aug i op e, D, Γ, S => ∃ x, gt Γ i = some x ∧ W C e Γ S (fun y S1 => ∃ n : Int, x = .int n ∧ ∃ m : Int, y = .int m ∧ ∃ r : Int, augI op n m = some r ∧ D.nx (Γ.set i (some (.int r))) S1) (fun x S1 => D.ex x Γ S1)
  | .setC i own elt tg it cond, D, Γ, S => WI C it Γ S (fun xs G S1 => G (S1 ++ [.lst []]) ∧ cpL (fun x S => bindT S tg x (wipeA Γ own)) (fun Γ S Q => WT0 C cond Γ S Q) (fun Γ S Q => W C elt Γ S Q (fun _ _ => False)) G S1.length (fun v S2 => D.nx (Γ.set i (some v)) S2) xs (S1 ++ [.lst []])) (fun x S1 => D.ex x Γ S1)
  | .for_ tg it b, D, Γ, S => WI C it Γ S (fun xs G S1 => G S1 ∧ frL (fun x Γ S => bindT S tg x Γ) (fun Nx Γ S => WSs C b { D with nx := Nx, ct := Nx, bk := D.nx } Γ S) G D.nx xs Γ S1) (fun x S1 => D.ex x Γ S1)
def WSs (C : Orc) : Sms → AEnds → Env → Sto → Prop
  | .nil, D, Γ, S => D.nx Γ S
  | .cons s ss, D, Γ, S => WS C s { D with nx := fun Γ S => WSs C ss D Γ S } Γ S
end
end AM

namespace AM
mutual
/-- the slots that a target fills -/
def tgS : Tg → List Nat
  | .name i => [i]
  | .tup ts => tgsS ts
def tgsS : Tgs → List Nat
  | .nil => []
  | .cons t ts => tgS t ++ tgsS ts
end
end AM
end

section
set_option linter.all false
set_option maxRecDepth 100000
/-! AM, second part: how the store stands for the heap. -/
namespace AM
open PySem L2

section
variable (K : PySem.W.Frag) (F : Hp) (β : List Addr)
mutual
def VR : Va → V → Prop
  | .non, x => x = .non
  | .bl b, x => x = .bl b
  | .int i, x => x = .int i
  | .str z, x => x = .str z
  | .tup xs, x => ∃ a ys, x = .ref a ∧ SqT K F a ys ∧ VRs xs ys
  | .lst xs, x => ∃ a ys, x = .ref a ∧ F a = some (.lst ys) ∧ VRs xs ys
  | .dct kvs, x => ∃ a ys, x = .ref a ∧ F a = some (.dK ys) ∧ VRk kvs ys
  | .loc n, x => ∃ a, x = .ref a ∧ β[n]? = some a
  | .scr ns, x => ∃ a, x = .ref a ∧ SqL K F a (ns.map V.int)
def VRs : List Va → List V → Prop
  | [], ys => ys = []
  | x :: xs, ys => ∃ y r, ys = y :: r ∧ VR x y ∧ VRs xs r
def VRk : List (Key × Va) → List (Key × V) → Prop
  | [], ys => ys = []
  | (k, x) :: xs, ys => ∃ y r, ys = (k, y) :: r ∧ VR x y ∧ VRk xs r
end
def VRf : List (Str × Va) → List (Str × V) → Prop
  | [], ys => ys = []
  | (k, x) :: xs, ys => ∃ y r, ys = (k, y) :: r ∧ VR K F β x y ∧ VRf xs r

/-- an object of the store at its address -/
def OR (cA : Str → Addr) (H : Hp) : Ob → Addr → Prop
  | .lst xs, a => ∃ ys, H a = some (.lst ys) ∧ VRs K F β xs ys
  | .dct kvs, a => ∃ ys, H a = some (.dK ys) ∧ VRk K F β kvs ys
  | .ins C fs, a => ∃ dx ys, H a = some (.ins (cA C) dx ys) ∧ VRf K F β fs ys
  | .dead, _ => True
end

/-- F: what is frozen; β: where the store's objects stand -/
structure Sim (K : PySem.W.Frag) (cA : Str → Addr) (F : Hp) (β : List Addr) (S : Sto) (H : Hp) : Prop where
  sub : Same F H
  len : β.length = S.length
  inj : ∀ (i j : Nat) (a : Addr), β[i]? = some a → β[j]? = some a → i = j
  obj : ∀ (i : Nat) (o : Ob) (a : Addr), S[i]? = some o → β[i]? = some a → F a = none ∧ OR K F β cA H o a
  fresh : ∀ a ∈ β, H a ≠ none

def VRo (K : PySem.W.Frag) (F : Hp) (β : List Addr) : Option Va → Option V → Prop
  | some v, some x => VR K F β v x
  | some _, none => False
  | none, _ => True
def EnvR (K : PySem.W.Frag) (F : Hp) (β : List Addr) : Env → St → Prop
  | [], [] => True
  | v :: Γ, x :: σ => VRo K F β v x ∧ EnvR K F β Γ σ
  | _, _ => False

structure Ext (F : Hp) (β : List Addr) (F' : Hp) (β' : List Addr) : Prop where
  sub : Same F F'
  pre : β <+: β'

theorem SqL.mono {K : PySem.W.Frag} {F F' : Hp} (h : Same F F') {a : Addr} {xs : List V} (x : SqL K F a xs) : SqL K F' a xs := h.seq x
theorem SqT.mono {K : PySem.W.Frag} {F F' : Hp} (h : Same F F') {a : Addr} {xs : List V} (x : SqT K F a xs) : SqT K F' a xs := by
  rcases x with (x | ⟨o, x⟩) | x
  · exact .inl (.inl (h _ _ x))
  · exact .inl (.inr ⟨o, h _ _ x⟩)
  · exact .inr x
theorem Rd.mono {F F' : Hp} (h : Same F F') {a : Addr} {u : HO} (x : Rd F a u) : Rd F' a u := by
  rcases x with x | ⟨o, x⟩
  · exact .inl (h _ _ x)
  · exact .inr ⟨o, h _ _ x⟩
theorem pre_get {β β' : List Addr} (h : β <+: β') {n : Nat} {a : Addr} (e : β[n]? = some a) : β'[n]? = some a := by
  obtain ⟨t, rfl⟩ := h
  have hl : n < β.length := by
    by_cases q : n < β.length
    · exact q
    · rw [List.getElem?_eq_none (by omega)] at e; cases e
  rw [List.getElem?_append_left hl]; exact e

section
variable {K : PySem.W.Frag} {F F' : Hp} {β β' : List Addr} (h : Same F F') (hb : β <+: β')
include h hb
mutual
theorem VR.mono : ∀ (v : Va) (x : V), VR K F β v x → VR K F' β' v x
  | .non, x, q => q
  | .bl b, x, q => q
  | .int i, x, q => q
  | .str z, x, q => q
  | .tup xs, x, ⟨a, ys, e, s, r⟩ => ⟨a, ys, e, SqT.mono h s, VRs.mono xs ys r⟩
  | .lst xs, x, ⟨a, ys, e, s, r⟩ => ⟨a, ys, e, h _ _ s, VRs.mono xs ys r⟩
  | .dct kvs, x, ⟨a, ys, e, s, r⟩ => ⟨a, ys, e, h _ _ s, VRk.mono kvs ys r⟩
  | .loc n, x, ⟨a, e, q⟩ => ⟨a, e, pre_get hb q⟩
  | .scr ns, x, ⟨a, e, q⟩ => ⟨a, e, SqL.mono h q⟩
theorem VRs.mono : ∀ (v : List Va) (x : List V), VRs K F β v x → VRs K F' β' v x
  | [], x, q => q
  | v :: vs, x, ⟨y, r, e, q, qs⟩ => ⟨y, r, e, VR.mono v y q, VRs.mono vs r qs⟩
theorem VRk.mono : ∀ (v : List (Key × Va)) (x : List (Key × V)), VRk K F β v x → VRk K F' β' v x
  | [], x, q => q
  | (k, v) :: vs, x, ⟨y, r, e, q, qs⟩ => ⟨y, r, e, VR.mono v y q, VRk.mono vs r qs⟩
end
theorem VRf.mono : ∀ (v : List (Str × Va)) (x : List (Str × V)), VRf K F β v x → VRf K F' β' v x
  | [], x, q => q
  | (k, v) :: vs, x, ⟨y, r, e, q, qs⟩ => ⟨y, r, e, VR.mono h hb v y q, VRf.mono vs r qs⟩
theorem VRo.mono : ∀ (v : Option Va) (x : Option V), VRo K F β v x → VRo K F' β' v x
  | some v, some x, q => VR.mono h hb v x q
  | none, _, _ => trivial
theorem EnvR.mono : ∀ (Γ : Env) (σ : St), EnvR K F β Γ σ → EnvR K F' β' Γ σ
  | [], [], _ => trivial
  | v :: Γ, x :: σ, ⟨q, r⟩ => ⟨VRo.mono h hb v x q, EnvR.mono Γ σ r⟩
end
theorem Ext.refl (F : Hp) (β : List Addr) : Ext F β F β := ⟨Same.refl F, List.prefix_refl β⟩
theorem Ext.trans {F F1 F2 : Hp} {β β1 β2 : List Addr} (a : Ext F β F1 β1) (b : Ext F1 β1 F2 β2) : Ext F β F2 β2 := ⟨a.sub.trans b.sub, a.pre.trans b.pre⟩

section
variable {K : PySem.W.Frag} {F : Hp} {β : List Addr}
theorem EnvR.get : ∀ {Γ : Env} {σ : St} {i : Nat} {v : Va}, EnvR K F β Γ σ → gt Γ i = some v → ∃ x, σ[i]? = some (some x) ∧ VR K F β v x
  | [], _, i, v, _, e => by simp [gt] at e
  | o :: Γ, [], i, v, h, e => by simp [EnvR] at h
  | o :: Γ, x :: σ, 0, v, ⟨h, _⟩, e => by
    have e' : o = some v := e
    subst e'
    cases x with
    | none => exact h.elim
    | some x => exact ⟨x, rfl, h⟩
  | o :: Γ, x :: σ, i + 1, v, ⟨_, h⟩, e => by
    obtain ⟨y, e1, r⟩ := EnvR.get (i := i) h e
    exact ⟨y, by simpa using e1, r⟩
theorem EnvR.set : ∀ {Γ : Env} {σ : St} {i : Nat} {v : Va} {x : V}, EnvR K F β Γ σ → VR K F β v x → EnvR K F β (Γ.set i (some v)) (σ.set i (some x))
  | [], [], _, _, _, _, _ => trivial
  | [], _ :: _, _, _, _, h, _ => by simp [EnvR] at h
  | _ :: _, [], _, _, _, h, _ => by simp [EnvR] at h
  | o :: Γ, y :: σ, 0, v, x, ⟨_, h⟩, r => ⟨r, h⟩
  | o :: Γ, y :: σ, i + 1, v, x, ⟨q, h⟩, r => ⟨q, EnvR.set h r⟩
theorem EnvR.len : ∀ {Γ : Env} {σ : St}, EnvR K F β Γ σ → Γ.length = σ.length
  | [], [], _ => rfl
  | [], _ :: _, h => by simp [EnvR] at h
  | _ :: _, [], h => by simp [EnvR] at h
  | _ :: Γ, _ :: σ, ⟨_, h⟩ => by simp [EnvR.len h]
theorem VRs.len : ∀ {xs : List Va} {ys : List V}, VRs K F β xs ys → xs.length = ys.length
  | [], _, h => by cases (show _ = [] from h); rfl
  | x :: xs, _, ⟨y, r, e, _, q⟩ => by subst e; simp [VRs.len q]
theorem VRs.get : ∀ {xs : List Va} {ys : List V} {i : Nat} {v : Va}, VRs K F β xs ys → xs[i]? = some v → ∃ x, ys[i]? = some x ∧ VR K F β v x
  | [], _, i, v, _, e => by simp at e
  | x :: xs, _, 0, v, ⟨y, r, e, q, _⟩, h => by subst e; simp at h; subst h; exact ⟨y, rfl, q⟩
  | x :: xs, _, i + 1, v, ⟨y, r, e, _, q⟩, h => by
    subst e
    obtain ⟨z, e1, r1⟩ := VRs.get (i := i) (v := v) q (by simpa using h)
    exact ⟨z, by simpa using e1, r1⟩
theorem VRs.append : ∀ {xs xs' : List Va} {ys ys' : List V}, VRs K F β xs ys → VRs K F β xs' ys' → VRs K F β (xs ++ xs') (ys ++ ys')
  | [], _, _, _, h, q => by cases (show _ = [] from h); exact q
  | x :: xs, _, _, _, ⟨y, r, e, q, qs⟩, h => by subst e; exact ⟨y, _, rfl, q, VRs.append qs h⟩
end

theorem EnvR.wipe1 {K : PySem.W.Frag} {F : Hp} {β : List Addr} : ∀ {Γ : Env} {σ : St} {i : Nat} {o : Option V}, EnvR K F β Γ σ → EnvR K F β (Γ.set i none) (σ.set i o)
  | [], [], _, _, _ => trivial
  | [], _ :: _, _, _, h => by simp [EnvR] at h
  | _ :: _, [], _, _, h => by simp [EnvR] at h
  | o :: Γ, y :: σ, 0, _, ⟨_, h⟩ => ⟨trivial, h⟩
  | o :: Γ, y :: σ, i + 1, _, ⟨q, h⟩ => ⟨q, EnvR.wipe1 h⟩
theorem VRs.ints {K : PySem.W.Frag} {F : Hp} {β : List Addr} : ∀ {ns : List Int} {ys : List V}, VRs K F β (ns.map Va.int) ys ↔ ys = ns.map V.int
  | [], ys => Iff.rfl
  | n :: ns, ys => by
    constructor
    · rintro ⟨y, r, e, q, qs⟩
      cases (show y = .int n from q)
      rw [e, VRs.ints.mp qs]; rfl
    · rintro rfl
      exact ⟨.int n, ns.map V.int, rfl, rfl, VRs.ints.mpr rfl⟩
theorem VRs.bls {K : PySem.W.Frag} {F : Hp} {β : List Addr} : ∀ {ns : List Bool} {ys : List V}, VRs K F β (ns.map Va.bl) ys ↔ ys = ns.map V.bl
  | [], ys => Iff.rfl
  | n :: ns, ys => by
    constructor
    · rintro ⟨y, r, e, q, qs⟩
      cases (show y = .bl n from q)
      rw [e, VRs.bls.mp qs]; rfl
    · rintro rfl
      exact ⟨.bl n, ns.map V.bl, rfl, rfl, VRs.bls.mpr rfl⟩
theorem VRs.strs {K : PySem.W.Frag} {F : Hp} {β : List Addr} : ∀ {ns : List Str} {ys : List V}, VRs K F β (ns.map Va.str) ys ↔ ys = ns.map V.str
  | [], ys => Iff.rfl
  | n :: ns, ys => by
    constructor
    · rintro ⟨y, r, e, q, qs⟩
      cases (show y = .str n from q)
      rw [e, VRs.strs.mp qs]; rfl
    · rintro rfl
      exact ⟨.str n, ns.map V.str, rfl, rfl, VRs.strs.mpr rfl⟩
section
variable {K : PySem.W.Frag} {cA : Str → Addr} {F : Hp} {β : List Addr} {S : Sto} {H : Hp}
theorem OR.mono {F' : Hp} {β' : List Addr} {H' : Hp} (h : Same F F') (hb : β <+: β') {o : Ob} {a : Addr} (e : H' a = H a) (q : OR K F β cA H o a) : OR K F' β' cA H' o a := by
  cases o with
  | lst xs => obtain ⟨ys, e1, r⟩ := q; exact ⟨ys, e.trans e1, VRs.mono h hb _ _ r⟩
  | dct kvs => obtain ⟨ys, e1, r⟩ := q; exact ⟨ys, e.trans e1, VRk.mono h hb _ _ r⟩
  | ins C fs => obtain ⟨dx, ys, e1, r⟩ := q; exact ⟨dx, ys, e.trans e1, VRf.mono h hb _ _ r⟩
  | dead => trivial
theorem lt_of_get {α : Type} {l : List α} {i : Nat} {x : α} (e : l[i]? = some x) : i < l.length := by
  by_cases q : i < l.length
  · exact q
  · rw [List.getElem?_eq_none (by omega)] at e; cases e
theorem Sim.at (s : Sim K cA F β S H) {k : Nat} {o : Ob} (e : S[k]? = some o) : ∃ a, β[k]? = some a ∧ F a = none ∧ OR K F β cA H o a := by
  have hk := lt_of_get e
  have hk2 : k < β.length := by rw [s.len]; exact hk
  exact ⟨β[k], by simp [hk2], s.obj k o _ e (by simp [hk2])⟩
/-- a frozen object laid -/
theorem Sim.lay (s : Sim K cA F β S H) {p : Addr} (hp : H p = none) (o : HO) : Sim K cA (upd F p o) β S (upd H p o) ∧ Same F (upd F p o) := by
  have fp : F p = none := s.sub.free hp
  have sub : Same F (upd F p o) := fun b u e => by rw [upd_ne (ne_of_none e fp)]; exact e
  have hne : ∀ a ∈ β, a ≠ p := fun a ha e => s.fresh a ha (e ▸ hp)
  refine ⟨⟨fun b u e => ?_, s.len, s.inj, fun i ob a e1 e2 => ?_, fun a ha => ?_⟩, sub⟩
  · by_cases hb : b = p
    · subst hb; rw [upd_same] at e ⊢; exact e
    · rw [upd_ne hb] at e ⊢; exact s.sub _ _ e
  · obtain ⟨h1, h2⟩ := s.obj i ob a e1 e2
    have ha : a ≠ p := hne a (List.mem_of_getElem? e2)
    exact ⟨by rw [upd_ne ha]; exact h1, OR.mono sub (List.prefix_refl _) (by rw [upd_ne ha]) h2⟩
  · rw [upd_ne (hne a ha)]; exact s.fresh a ha
/-- an object of the store laid -/
theorem Sim.new (s : Sim K cA F β S H) {p : Addr} (hp : H p = none) {o : Ob} {u : HO} (q : OR K F (β ++ [p]) cA (upd H p u) o p) : Sim K cA F (β ++ [p]) (S ++ [o]) (upd H p u) := by
  have fp : F p = none := s.sub.free hp
  have hne : ∀ a ∈ β, a ≠ p := fun a ha e => s.fresh a ha (e ▸ hp)
  refine ⟨fun b v e => ?_, by simp [s.len], fun i j a e1 e2 => ?_, fun i ob a e1 e2 => ?_, fun a ha => ?_⟩
  · rw [upd_ne (ne_of_none e fp)]; exact s.sub _ _ e
  · have key : ∀ i, (β ++ [p])[i]? = some a → (β[i]? = some a ∧ i < β.length) ∨ (i = β.length ∧ a = p) := fun i e => by
      by_cases hi : i < β.length
      · rw [List.getElem?_append_left hi] at e; exact .inl ⟨e, hi⟩
      · rw [List.getElem?_append_right (by omega)] at e
        have hl := lt_of_get e
        simp only [List.length_singleton] at hl
        have h0 : i - β.length = 0 := by omega
        rw [h0] at e
        exact .inr ⟨by omega, (Option.some.inj e).symm⟩
    rcases key i e1 with ⟨x1, _⟩ | ⟨x1, y1⟩
    · rcases key j e2 with ⟨x2, _⟩ | ⟨x2, y2⟩
      · exact s.inj i j a x1 x2
      · exact absurd y2 (hne a (List.mem_of_getElem? x1))
    · rcases key j e2 with ⟨x2, _⟩ | ⟨x2, y2⟩
      · exact absurd y1 (hne a (List.mem_of_getElem? x2))
      · omega
  · by_cases hi : i < S.length
    · have hib : i < β.length := by rw [s.len]; exact hi
      rw [List.getElem?_append_left hi] at e1
      rw [List.getElem?_append_left hib] at e2
      obtain ⟨h1, h2⟩ := s.obj i ob a e1 e2
      exact ⟨h1, OR.mono (Same.refl _) (List.prefix_append _ _) (by rw [upd_ne (hne a (List.mem_of_getElem? e2))]) h2⟩
    · have hib : ¬ i < β.length := by rw [s.len]; exact hi
      rw [List.getElem?_append_right (by omega)] at e1 e2
      have hl := lt_of_get e1
      simp only [List.length_singleton] at hl
      have h0 : i - S.length = 0 := by omega
      have h0' : i - β.length = 0 := by rw [s.len]; exact h0
      rw [h0] at e1
      rw [h0'] at e2
      cases (Option.some.inj e1 : o = ob)
      cases (Option.some.inj e2 : p = a)
      exact ⟨fp, q⟩
  · rcases List.mem_append.mp ha with h1 | h1
    · rw [upd_ne (hne a h1)]; exact s.fresh a h1
    · have : a = p := by simpa using h1
      subst this
      rw [upd_same]; simp
/-- an object of the store changed -/
theorem Sim.put (s : Sim K cA F β S H) {k : Nat} {a : Addr} {o : Ob} {u : HO} (hk : k < S.length) (ha : β[k]? = some a) (fa : F a = none) (q : OR K F β cA (upd H a u) o a) : Sim K cA F β (S.set k o) (upd H a u) := by
  refine ⟨fun b v e => ?_, by simp [s.len], s.inj, fun i ob b e1 e2 => ?_, fun b hb => ?_⟩
  · rw [upd_ne (ne_of_none e fa)]; exact s.sub _ _ e
  · by_cases hi : k = i
    · subst hi
      rw [List.getElem?_set_self hk] at e1
      cases (Option.some.inj e1 : o = ob)
      rw [ha] at e2
      cases (Option.some.inj e2 : a = b)
      exact ⟨fa, q⟩
    · rw [List.getElem?_set_ne hi] at e1
      obtain ⟨h1, h2⟩ := s.obj i ob b e1 e2
      have hb : b ≠ a := fun z => hi (s.inj k i a ha (z ▸ e2))
      exact ⟨h1, OR.mono (Same.refl _) (List.prefix_refl _) (by rw [upd_ne hb]) h2⟩
  · by_cases hba : b = a
    · subst hba; rw [upd_same]; simp
    · rw [upd_ne hba]; exact s.fresh b hb
end
end AM
end

section
set_option linter.all false
set_option maxRecDepth 100000
set_option maxHeartbeats 4000000
/-! AM, third part: weaker ends; calls. -/
namespace AM
open PySem L2

section
variable {S : Sto} {P P' : PV} (hP : ∀ v S, P v S → P' v S)
include hP
theorem wCat_mono {x y : Va} (h : wCat x y S P) : wCat x y S P' := by
  unfold wCat at h ⊢
  (revert h; repeat' first | exact False.elim | exact hP _ _ | exact fun q m a b => hP _ _ (q m a b) | exact fun q m a b => hP _ _ (q m a b) | refine Exists.imp fun _ => ?_ | refine And.imp_right ?_)
theorem wBin_mono {op : Bop} {x y : Va} (h : wBin op x y S P) : wBin op x y S P' := by
  unfold wBin at h ⊢
  split at h <;> first | exact h.elim | exact wCat_mono hP h | (revert h; repeat' first | exact False.elim | exact hP _ _ | exact fun q m a b => hP _ _ (q m a b) | exact fun q m a b => hP _ _ (q m a b) | refine Exists.imp fun _ => ?_ | refine And.imp_right ?_)
theorem wNeg_mono {x : Va} (h : wNeg x S P) : wNeg x S P' := by
  unfold wNeg at h ⊢
  split at h <;> (revert h; repeat' first | exact False.elim | exact hP _ _ | exact fun q m a b => hP _ _ (q m a b) | exact fun q m a b => hP _ _ (q m a b) | refine Exists.imp fun _ => ?_ | refine And.imp_right ?_)
theorem wCmp_mono {op : Cop} {x y : Va} (h : wCmp op x y S P) : wCmp op x y S P' := by
  unfold wCmp at h ⊢
  split at h
  all_goals first | exact h.elim | (rcases h with ⟨h1, h2⟩ | ⟨d, e, h1, h2, h3, h4, h5⟩; exact .inl ⟨h1, hP _ _ h2⟩; exact .inr ⟨d, e, h1, h2, h3, h4, hP _ _ h5⟩) | skip
  all_goals (revert h; repeat' first | exact False.elim | exact hP _ _ | exact fun q m a b => hP _ _ (q m a b) | exact fun q m a b => hP _ _ (q m a b) | refine Exists.imp fun _ => ?_ | refine And.imp_right ?_)
theorem wLen_mono {x : Va} (h : wLen x S P) : wLen x S P' := by
  unfold wLen at h ⊢
  split at h <;> (revert h; repeat' first | exact False.elim | exact hP _ _ | exact fun q m a b => hP _ _ (q m a b) | exact fun q m a b => hP _ _ (q m a b) | refine Exists.imp fun _ => ?_ | refine And.imp_right ?_)
theorem wAbs_mono {x : Va} (h : wAbs x S P) : wAbs x S P' := by
  unfold wAbs at h ⊢
  split at h <;> (revert h; repeat' first | exact False.elim | exact hP _ _ | exact fun q m a b => hP _ _ (q m a b) | exact fun q m a b => hP _ _ (q m a b) | refine Exists.imp fun _ => ?_ | refine And.imp_right ?_)
theorem wSub_mono {x y : Va} (h : wSub x y S P) : wSub x y S P' := by
  unfold wSub at h ⊢
  split at h <;> (revert h; repeat' first | exact False.elim | exact hP _ _ | exact fun q m a b => hP _ _ (q m a b) | exact fun q m a b => hP _ _ (q m a b) | refine Exists.imp fun _ => ?_ | refine And.imp_right ?_)
theorem wSlice_mono {x : Va} {lo hi : Option Int} (h : wSlice x lo hi S P) : wSlice x lo hi S P' := by
  unfold wSlice at h ⊢
  split at h <;> (revert h; repeat' first | exact False.elim | exact hP _ _ | exact fun q m a b => hP _ _ (q m a b) | exact fun q m a b => hP _ _ (q m a b) | refine Exists.imp fun _ => ?_ | refine And.imp_right ?_)
theorem wBlt_mono {f : Bf} {vs : List Va} (h : wBlt f vs S P) : wBlt f vs S P' := by
  unfold wBlt at h ⊢
  split at h <;> (revert h; repeat' first | exact False.elim | exact hP _ _ | exact fun q m a b => hP _ _ (q m a b) | exact fun q m a b => hP _ _ (q m a b) | refine Exists.imp fun _ => ?_ | refine And.imp_right ?_)
theorem wMth_mono {m : Mf} {o : Va} {vs : List Va} (h : wMth m o vs S P) : wMth m o vs S P' := by
  unfold wMth at h ⊢
  split at h <;> (revert h; repeat' first | exact False.elim | exact hP _ _ | exact fun q m a b => hP _ _ (q m a b) | exact fun q m a b => hP _ _ (q m a b) | refine Exists.imp fun _ => ?_ | refine And.imp_right ?_)
end
section
variable {S : Sto} {P P' : PI_} (hP : ∀ xs G S, P xs G S → P' xs G S)
include hP
theorem wSeq_mono {x : Va} (h : wSeq x S P) : wSeq x S P' := by
  unfold wSeq at h ⊢
  split at h <;> (revert h; repeat' first | exact False.elim | exact hP _ _ _ | refine Exists.imp fun _ => ?_ | refine And.imp_right ?_)
theorem wLst_mono {x : Va} (h : wLst x S P) : wLst x S P' := by
  unfold wLst at h ⊢
  split at h <;> (revert h; repeat' first | exact False.elim | exact hP _ _ _ | refine Exists.imp fun _ => ?_ | refine And.imp_right ?_)
end
theorem cpL_mono {bind : Va → Sto → Option Env} {t : Env → Sto → (Bool → Sto → Prop) → Prop} {e : Env → Sto → PV → Prop} {G : Sto → Prop} {d : Nat} {P P' : PV}
    (ht : ∀ Γ S P P', (∀ k S, P k S → P' k S) → t Γ S P → t Γ S P') (he : ∀ Γ S (P P' : PV), (∀ v S, P v S → P' v S) → e Γ S P → e Γ S P') (hP : ∀ v S, P v S → P' v S) :
    ∀ xs S, cpL bind t e G d P xs S → cpL bind t e G d P' xs S
  | [], S, h => hP _ _ h
  | x :: xs, S, ⟨Γ1, h1, h2⟩ => ⟨Γ1, h1, ht _ _ _ _ (fun b S2 q => by
      cases b with
      | true => exact he _ _ _ _ (fun v S3 ⟨acc, q1, q2, q3, q4⟩ => ⟨acc, q1, q2, q3, cpL_mono ht he hP xs _ q4⟩) q
      | false => exact ⟨q.1, cpL_mono ht he hP xs _ q.2⟩) h2⟩

def OrcMono (C : Orc) : Prop := ∀ f vs S P P' E E', (∀ v S, P v S → P' v S) → (∀ x S, E x S → E' x S) → C f vs S P E → C f vs S P' E'
section
variable {C : Orc} (hC : OrcMono C)
include hC
mutual
theorem W_mono : ∀ (m : Ex) (Γ : Env) (S : Sto) (P P' : PV) (E E' : PX), (∀ v S, P v S → P' v S) → (∀ x S, E x S → E' x S) → W C m Γ S P E → W C m Γ S P' E'
  | .var i, Γ, S, P, P', E, E', hP, hE, ⟨v, e, q⟩ => ⟨v, e, hP _ _ q⟩
  | .int i, Γ, S, P, P', E, E', hP, hE, h => hP _ _ h
  | .bl b, Γ, S, P, P', E, E', hP, hE, h => hP _ _ h
  | .non, Γ, S, P, P', E, E', hP, hE, h => hP _ _ h
  | .str x, Γ, S, P, P', E, E', hP, hE, h => hP _ _ h
  | .glob x, Γ, S, P, P', E, E', hP, hE, h => h.elim
  | .tup es, Γ, S, P, P', E, E', hP, hE, h => WL_mono es Γ S _ _ E E' (fun vs S ⟨h1, h2⟩ => ⟨h1, hP _ _ h2⟩) hE h
  | .lst es, Γ, S, P, P', E, E', hP, hE, h => WL_mono es Γ S _ _ E E' (fun vs S ⟨h1, h2⟩ => ⟨h1, hP _ _ h2⟩) hE h
  | .bin op a b, Γ, S, P, P', E, E', hP, hE, h => W_mono a Γ S _ _ E E' (fun x S1 h1 => W_mono b Γ S1 _ _ E E' (fun y S2 h2 => wBin_mono hP h2) hE h1) hE h
  | .neg a, Γ, S, P, P', E, E', hP, hE, h => W_mono a Γ S _ _ E E' (fun x S1 h1 => wNeg_mono hP h1) hE h
  | .cmp op a b, Γ, S, P, P', E, E', hP, hE, h => W_mono a Γ S _ _ E E' (fun x S1 h1 => W_mono b Γ S1 _ _ E E' (fun y S2 h2 => wCmp_mono hP h2) hE h1) hE h
  | .isN a, Γ, S, P, P', E, E', hP, hE, h => W_mono a Γ S _ _ E E' (fun x S1 h1 => hP _ _ h1) hE h
  | .notN a, Γ, S, P, P', E, E', hP, hE, h => W_mono a Γ S _ _ E E' (fun x S1 h1 => hP _ _ h1) hE h
  | .chain op op' a b c, Γ, S, P, P', E, E', hP, hE, h => W_mono a Γ S _ _ E E' (fun x S1 h1 => W_mono b Γ S1 _ _ E E' (fun y S2 h2 => wCmp_mono (fun z S3 ⟨k, e, h3⟩ => ⟨k, e, by
      cases k with
      | true => exact W_mono c Γ S3 _ _ E E' (fun u S4 h4 => wCmp_mono hP h4) hE h3
      | false => exact hP _ _ h3⟩) h2) hE h1) hE h
  | .tst t, Γ, S, P, P', E, E', hP, hE, h => WB_mono t Γ S P P' E E' hP hE h
  | .ite t a b, Γ, S, P, P', E, E', hP, hE, h => WT_mono t Γ S _ _ E E' (fun k S1 h1 => by
      cases k with
      | true => exact W_mono a Γ S1 P P' E E' hP hE h1
      | false => exact W_mono b Γ S1 P P' E E' hP hE h1) hE h
  | .call f es, Γ, S, P, P', E, E', hP, hE, h => WL_mono es Γ S _ _ E E' (fun vs S h1 => hC _ _ _ _ _ _ _ hP hE h1) hE h
  | .len a, Γ, S, P, P', E, E', hP, hE, h => W_mono a Γ S _ _ E E' (fun x S1 h1 => wLen_mono hP h1) hE h
  | .abs a, Γ, S, P, P', E, E', hP, hE, h => W_mono a Γ S _ _ E E' (fun x S1 h1 => wAbs_mono hP h1) hE h
  | .isi a t, Γ, S, P, P', E, E', hP, hE, h => W_mono a Γ S _ _ E E' (fun x S1 ⟨b, h1, h2⟩ => ⟨b, h1, hP _ _ h2⟩) hE h
  | .sub a i, Γ, S, P, P', E, E', hP, hE, h => W_mono a Γ S _ _ E E' (fun x S1 h1 => W_mono i Γ S1 _ _ E E' (fun y S2 h2 => wSub_mono hP h2) hE h1) hE h
  | .slice a lo hi, Γ, S, P, P', E, E', hP, hE, h => W_mono a Γ S _ _ E E' (fun x S1 h1 => WOe_mono lo Γ S1 _ _ E E' (fun l S2 h2 => WOe_mono hi Γ S2 _ _ E E' (fun r S3 h3 => wSlice_mono hP h3) hE h2) hE h1) hE h
  | .blt f es, Γ, S, P, P', E, E', hP, hE, h => WL_mono es Γ S _ _ E E' (fun vs S1 h1 => wBlt_mono hP h1) hE h
  | .mth m o es, Γ, S, P, P', E, E', hP, hE, h => W_mono o Γ S _ _ E E' (fun x S1 ⟨h0, h1⟩ => ⟨h0, WL_mono es Γ S1 _ _ E E' (fun vs S2 h2 => wMth_mono hP h2) hE h1⟩) hE h
  | .comp own elt tg it cond, Γ, S, P, P', E, E', hP, hE, h => WI_mono it Γ S _ _ E E' (fun xs G S1 ⟨h0, h1⟩ => ⟨h0, cpL_mono (fun Γ S P P' hp q => WT0_mono cond Γ S P P' hp q) (fun Γ S P P' hp q => W_mono elt Γ S P P' _ _ hp (fun _ _ z => z) q) hP xs _ h1⟩) hE h
theorem WOe_mono : ∀ (m : Oe) (Γ : Env) (S : Sto) (P P' : Option Int → Sto → Prop) (E E' : PX), (∀ v S, P v S → P' v S) → (∀ x S, E x S → E' x S) → WOe C m Γ S P E → WOe C m Γ S P' E'
  | .none, Γ, S, P, P', E, E', hP, hE, h => hP _ _ h
  | .some e, Γ, S, P, P', E, E', hP, hE, h => W_mono e Γ S _ _ E E' (fun v S1 ⟨i, e1, h1⟩ => ⟨i, e1, hP _ _ h1⟩) hE h
theorem WI_mono : ∀ (m : It) (Γ : Env) (S : Sto) (P P' : PI_) (E E' : PX), (∀ xs G S, P xs G S → P' xs G S) → (∀ x S, E x S → E' x S) → WI C m Γ S P E → WI C m Γ S P' E'
  | .seq e, Γ, S, P, P', E, E', hP, hE, h => W_mono e Γ S _ _ E E' (fun v S1 h1 => wSeq_mono hP h1) hE h
  | .range1 a, Γ, S, P, P', E, E', hP, hE, h => W_mono a Γ S _ _ E E' (fun v S1 ⟨i, e1, h1, h2, h3⟩ => ⟨i, e1, h1, h2, hP _ _ _ h3⟩) hE h
  | .range2 a b, Γ, S, P, P', E, E', hP, hE, h => W_mono a Γ S _ _ E E' (fun v S1 h1 => W_mono b Γ S1 _ _ E E' (fun u S2 ⟨i, e1, j, e2, h2, h3⟩ => ⟨i, e1, j, e2, h2, hP _ _ _ h3⟩) hE h1) hE h
  | .enum e, Γ, S, P, P', E, E', hP, hE, h => W_mono e Γ S _ _ E E' (fun v S1 h1 => wLst_mono (fun _ _ _ z => hP _ _ _ z) h1) hE h
  | .zip a b, Γ, S, P, P', E, E', hP, hE, h => W_mono a Γ S _ _ E E' (fun v S1 h1 => W_mono b Γ S1 _ _ E E' (fun u S2 h2 => wLst_mono (fun _ _ _ z => wLst_mono (fun _ _ _ z => hP _ _ _ z) z) h2) hE h1) hE h
  | .rev e, Γ, S, P, P', E, E', hP, hE, h => W_mono e Γ S _ _ E E' (fun v S1 h1 => wLst_mono (fun _ _ _ z => hP _ _ _ z) h1) hE h
theorem WT0_mono : ∀ (m : Tes0) (Γ : Env) (S : Sto) (P P' : Bool → Sto → Prop), (∀ v S, P v S → P' v S) → WT0 C m Γ S P → WT0 C m Γ S P'
  | .none, Γ, S, P, P', hP, h => hP _ _ h
  | .some t, Γ, S, P, P', hP, h => WT_mono t Γ S _ _ _ _ hP (fun _ _ z => z) h
theorem WT_mono : ∀ (m : Te) (Γ : Env) (S : Sto) (P P' : Bool → Sto → Prop) (E E' : PX), (∀ v S, P v S → P' v S) → (∀ x S, E x S → E' x S) → WT C m Γ S P E → WT C m Γ S P' E'
  | .val e, Γ, S, P, P', E, E', hP, hE, h => W_mono e Γ S _ _ E E' (fun v S1 ⟨b, h1, h2⟩ => ⟨b, h1, hP _ _ h2⟩) hE h
  | .not t, Γ, S, P, P', E, E', hP, hE, h => WT_mono t Γ S _ _ E E' (fun v S1 h1 => hP _ _ h1) hE h
  | .and ts, Γ, S, P, P', E, E', hP, hE, h => WA_mono ts Γ S _ _ E E' hP hE h
  | .or ts, Γ, S, P, P', E, E', hP, hE, h => WO_mono ts Γ S _ _ E E' hP hE h
theorem WA_mono : ∀ (m : Tes) (Γ : Env) (S : Sto) (P P' : Bool → Sto → Prop) (E E' : PX), (∀ v S, P v S → P' v S) → (∀ x S, E x S → E' x S) → WA C m Γ S P E → WA C m Γ S P' E'
  | .one t, Γ, S, P, P', E, E', hP, hE, h => WT_mono t Γ S _ _ E E' hP hE h
  | .cons t ts, Γ, S, P, P', E, E', hP, hE, h => WT_mono t Γ S _ _ E E' (fun k S1 h1 => by
      cases k with
      | true => exact WA_mono ts Γ S1 P P' E E' hP hE h1
      | false => exact hP _ _ h1) hE h
theorem WO_mono : ∀ (m : Tes) (Γ : Env) (S : Sto) (P P' : Bool → Sto → Prop) (E E' : PX), (∀ v S, P v S → P' v S) → (∀ x S, E x S → E' x S) → WO C m Γ S P E → WO C m Γ S P' E'
  | .one t, Γ, S, P, P', E, E', hP, hE, h => WT_mono t Γ S _ _ E E' hP hE h
  | .cons t ts, Γ, S, P, P', E, E', hP, hE, h => WT_mono t Γ S _ _ E E' (fun k S1 h1 => by
      cases k with
      | false => exact WO_mono ts Γ S1 P P' E E' hP hE h1
      | true => exact hP _ _ h1) hE h
theorem WB_mono : ∀ (m : Te) (Γ : Env) (S : Sto) (P P' : PV) (E E' : PX), (∀ v S, P v S → P' v S) → (∀ x S, E x S → E' x S) → WB C m Γ S P E → WB C m Γ S P' E'
  | .val e, Γ, S, P, P', E, E', hP, hE, h => W_mono e Γ S _ _ E E' hP hE h
  | .not t, Γ, S, P, P', E, E', hP, hE, h => WB_mono t Γ S _ _ E E' (fun v S1 ⟨b, e, h1⟩ => ⟨b, e, hP _ _ h1⟩) hE h
  | .and ts, Γ, S, P, P', E, E', hP, hE, h => WBA_mono ts Γ S _ _ E E' hP hE h
  | .or ts, Γ, S, P, P', E, E', hP, hE, h => WBO_mono ts Γ S _ _ E E' hP hE h
theorem WBA_mono : ∀ (m : Tes) (Γ : Env) (S : Sto) (P P' : PV) (E E' : PX), (∀ v S, P v S → P' v S) → (∀ x S, E x S → E' x S) → WBA C m Γ S P E → WBA C m Γ S P' E'
  | .one t, Γ, S, P, P', E, E', hP, hE, h => WB_mono t Γ S _ _ E E' hP hE h
  | .cons t ts, Γ, S, P, P', E, E', hP, hE, h => WB_mono t Γ S _ _ E E' (fun k S1 ⟨b, e, h1⟩ => ⟨b, e, by
      cases b with
      | true => exact WBA_mono ts Γ S1 P P' E E' hP hE h1
      | false => exact hP _ _ h1⟩) hE h
theorem WBO_mono : ∀ (m : Tes) (Γ : Env) (S : Sto) (P P' : PV) (E E' : PX), (∀ v S, P v S → P' v S) → (∀ x S, E x S → E' x S) → WBO C m Γ S P E → WBO C m Γ S P' E'
  | .one t, Γ, S, P, P', E, E', hP, hE, h => WB_mono t Γ S _ _ E E' hP hE h
  | .cons t ts, Γ, S, P, P', E, E', hP, hE, h => WB_mono t Γ S _ _ E E' (fun k S1 ⟨b, e, h1⟩ => ⟨b, e, by
      cases b with
      | false => exact WBO_mono ts Γ S1 P P' E E' hP hE h1
      | true => exact hP _ _ h1⟩) hE h
theorem WL_mono : ∀ (m : Exs) (Γ : Env) (S : Sto) (P P' : PL) (E E' : PX), (∀ v S, P v S → P' v S) → (∀ x S, E x S → E' x S) → WL C m Γ S P E → WL C m Γ S P' E'
  | .nil, Γ, S, P, P', E, E', hP, hE, h => hP _ _ h
  | .cons e es, Γ, S, P, P', E, E', hP, hE, h => W_mono e Γ S _ _ E E' (fun v S1 h1 => WL_mono es Γ S1 _ _ E E' (fun vs S2 h2 => hP _ _ h2) hE h1) hE h
end

structure DMono (D D' : AEnds) : Prop where
  nx : ∀ Γ S, D.nx Γ S → D'.nx Γ S
  rt : ∀ v S, D.rt v S → D'.rt v S
  bk : ∀ Γ S, D.bk Γ S → D'.bk Γ S
  ct : ∀ Γ S, D.ct Γ S → D'.ct Γ S
  ex : ∀ x Γ S, D.ex x Γ S → D'.ex x Γ S

omit hC in
theorem whN_mono {t t' : Env → Sto → (Bool → Sto → Prop) → Prop} {b b' : PE_ → Env → Sto → Prop} {nx nx' : PE_}
    (ht : ∀ Γ S P P', (∀ k S, P k S → P' k S) → t Γ S P → t' Γ S P') (hb : ∀ Γ S (N N' : PE_), (∀ Γ S, N Γ S → N' Γ S) → b N Γ S → b' N' Γ S) (hn : ∀ Γ S, nx Γ S → nx' Γ S) :
    ∀ n Γ S, whN t b nx n Γ S → whN t' b' nx' n Γ S
  | 0, _, _, h => h.elim
  | n + 1, Γ, S, h => ht Γ S _ _ (fun k S1 h1 => by
      cases k with
      | true => exact hb Γ S1 _ _ (fun Γ2 S2 h2 => whN_mono ht hb hn n Γ2 S2 h2) h1
      | false => exact hn _ _ h1) h
omit hC in
theorem frL_mono {bind : Va → Env → Sto → Option Env} {b b' : PE_ → Env → Sto → Prop} {G : Sto → Prop} {nx nx' : PE_}
    (hb : ∀ Γ S (N N' : PE_), (∀ Γ S, N Γ S → N' Γ S) → b N Γ S → b' N' Γ S) (hn : ∀ Γ S, nx Γ S → nx' Γ S) : ∀ xs Γ S, frL bind b G nx xs Γ S → frL bind b' G nx' xs Γ S
  | [], Γ, S, h => hn _ _ h
  | x :: xs, Γ, S, ⟨Γ1, h1, h2⟩ => ⟨Γ1, h1, hb _ _ _ _ (fun Γ' S' ⟨q1, q2⟩ => ⟨q1, frL_mono hb hn xs Γ' S' q2⟩) h2⟩
mutual
theorem WS_mono : ∀ (m : Sm) (D D' : AEnds) (Γ : Env) (S : Sto), DMono D D' → WS C m D Γ S → WS C m D' Γ S
  | .set i e, D, D', Γ, S, d, h => W_mono hC e Γ S _ _ _ _ (fun v S1 h1 => d.nx _ _ h1) (fun x S1 h1 => d.ex _ _ _ h1) h
  | .ret e, D, D', Γ, S, d, h => W_mono hC e Γ S _ _ _ _ d.rt (fun x S1 h1 => d.ex _ _ _ h1) h
  | .retN, D, D', Γ, S, d, h => d.rt _ _ h
  | .pass, D, D', Γ, S, d, h => d.nx _ _ h
  | .brk, D, D', Γ, S, d, h => d.bk _ _ h
  | .cont, D, D', Γ, S, d, h => d.ct _ _ h
  | .drop e, D, D', Γ, S, d, h => W_mono hC e Γ S _ _ _ _ (fun v S1 h1 => d.nx _ _ h1) (fun x S1 h1 => d.ex _ _ _ h1) h
  | .ite t a b, D, D', Γ, S, d, h => WT_mono hC t Γ S _ _ _ _ (fun k S1 h1 => by
      cases k with
      | true => exact WSs_mono a D D' Γ S1 d h1
      | false => exact WSs_mono b D D' Γ S1 d h1) (fun x S1 h1 => d.ex _ _ _ h1) h
  | .whil t b, D, D', Γ, S, d, ⟨n, h⟩ => ⟨n, whN_mono (fun Γ S P P' hp q => WT_mono hC t Γ S P P' _ _ hp (fun x S1 h1 => d.ex _ _ _ h1) q)
      (fun Γ S N N' hN q => WSs_mono b { D with nx := N, ct := N, bk := D.nx } { D' with nx := N', ct := N', bk := D'.nx } Γ S ⟨hN, d.rt, d.nx, hN, d.ex⟩ q) d.nx n Γ S h⟩
  | .raise x, D, D', Γ, S, d, h => d.ex _ _ _ h
  | .asg tg e, D, D', Γ, S, d, h => W_mono hC e Γ S _ _ _ _ (fun v S1 ⟨Γ1, e1, h1⟩ => ⟨Γ1, e1, d.nx _ _ h1⟩) (fun x S1 h1 => d.ex _ _ _ h1) h
  | .setSub o i e, D, D', Γ, S, d, h => W_mono hC e Γ S _ _ _ _ (fun v S1 h1 => W_mono hC o Γ S1 _ _ _ _ (fun x S2 h2 => W_mono hC i Γ S2 _ _ _ _ (fun y S3 ⟨k, e1, j, e2, xs, e3, n, e4, h3⟩ => ⟨k, e1, j, e2, xs, e3, n, e4, d.nx _ _ h3⟩) (fun x S1 h1 => d.ex _ _ _ h1) h2) (fun x S1 h1 => d.ex _ _ _ h1) h1) (fun x S1 h1 => d.ex _ _ _ h1) h
  | .aug i op e, D, D', Γ, S, d, ⟨x, hx, h⟩ => ⟨x, hx, W_mono hC e Γ S _ _ _ _ (fun y S1 ⟨n, e1, m, e2, r, h1, h2⟩ => ⟨n, e1, m, e2, r, h1, d.nx _ _ h2⟩) (fun x S1 h1 => d.ex _ _ _ h1) h⟩
  | .setC i own elt tg it cond, D, D', Γ, S, d, h => WI_mono hC it Γ S _ _ _ _ (fun xs G S1 ⟨h0, h1⟩ => ⟨h0, cpL_mono (fun Γ S P P' hp q => WT0_mono hC cond Γ S P P' hp q) (fun Γ S P P' hp q => W_mono hC elt Γ S P P' _ _ hp (fun _ _ z => z) q) (fun v S2 z => d.nx _ _ z) xs _ h1⟩) (fun x S1 h1 => d.ex _ _ _ h1) h
  | .for_ tg it b, D, D', Γ, S, d, h => WI_mono hC it Γ S _ _ _ _ (fun xs G S1 ⟨h0, h1⟩ => ⟨h0, frL_mono (fun Γ S N N' hN q => WSs_mono b { D with nx := N, ct := N, bk := D.nx } { D' with nx := N', ct := N', bk := D'.nx } Γ S ⟨hN, d.rt, d.nx, hN, d.ex⟩ q) d.nx xs _ _ h1⟩) (fun x S1 h1 => d.ex _ _ _ h1) h
theorem WSs_mono : ∀ (m : Sms) (D D' : AEnds) (Γ : Env) (S : Sto), DMono D D' → WSs C m D Γ S → WSs C m D' Γ S
  | .nil, D, D', Γ, S, d, h => d.nx _ _ h
  | .cons s ss, D, D', Γ, S, d, h => WS_mono s { D with nx := fun Γ S => WSs C ss D Γ S } { D' with nx := fun Γ S => WSs C ss D' Γ S } Γ S ⟨fun Γ1 S1 h1 => WSs_mono ss D D' Γ1 S1 d h1, d.rt, d.bk, d.ct, d.ex⟩ h
end
end

/-! ### calls -/
section
variable (S : Sto) (n : Nat)
mutual
/-- v' is v, with the store's objects from n on taken as they are for good -/
def Fz : Va → Va → Prop
  | v, .non => v = .non
  | v, .bl b => v = .bl b
  | v, .int i => v = .int i
  | v, .str x => v = .str x
  | v, .tup ys => ∃ xs, v = .tup xs ∧ Fzs xs ys
  | v, .lst ys => ∃ xs, (v = .lst xs ∨ ∃ k, v = .loc k ∧ n ≤ k ∧ S[k]? = some (.lst xs)) ∧ Fzs xs ys
  | v, .dct ys => ∃ xs, (v = .dct xs ∨ ∃ k, v = .loc k ∧ n ≤ k ∧ S[k]? = some (.dct xs)) ∧ Fzk xs ys
  | v, .loc k => v = .loc k ∧ k < n
  | v, .scr ns => v = .scr ns
def Fzs : List Va → List Va → Prop
  | vs, [] => vs = []
  | vs, y :: ys => ∃ x xs, vs = x :: xs ∧ Fz x y ∧ Fzs xs ys
def Fzk : List (Key × Va) → List (Key × Va) → Prop
  | vs, [] => vs = []
  | vs, (k, y) :: ys => ∃ x xs, vs = (k, x) :: xs ∧ Fz x y ∧ Fzk xs ys
end
end
section
variable (n : Nat)
mutual
/-- all places of the store in v are below n -/
def Cl : Va → Prop
  | .tup xs => Cls_ xs
  | .lst xs => Cls_ xs
  | .dct xs => Clk xs
  | .loc k => k < n
  | .non => True
  | .bl _ => True
  | .int _ => True
  | .str _ => True
  | .scr _ => True
def Cls_ : List Va → Prop
  | [] => True
  | x :: xs => Cl x ∧ Cls_ xs
def Clk : List (Key × Va) → Prop
  | [] => True
  | (_, x) :: xs => Cl x ∧ Clk xs
end
def Clf : List (Str × Va) → Prop
  | [] => True
  | (_, x) :: xs => Cl n x ∧ Clf xs
def ClO : Ob → Prop
  | .lst xs => Cls_ n xs
  | .dct xs => Clk n xs
  | .ins _ fs => Clf n fs
  | .dead => True
end
/-- S'': the first objects of S', which don't lean on later ones -/
def Cut (S S' S'' : Sto) : Prop := S'' = S' ∨ (S'' = S'.take S.length ∧ S.length ≤ S'.length ∧ ∀ (i : Nat) (o : Ob), i < S.length → S'[i]? = some o → S[i]? = some o ∨ ClO S.length o)
def Shed (S : Sto) (v : Va) (S' : Sto) (v' : Va) (S'' : Sto) : Prop :=
  (v' = v ∧ S'' = S') ∨ ((S'' = S'.take S.length ∧ S.length ≤ S'.length ∧ ∀ (i : Nat) (o : Ob), i < S.length → S'[i]? = some o → S[i]? = some o ∨ ClO S.length o) ∧ Fz S' S.length v v')

abbrev Tab := Str → Option Fn
def startA (N : List Str) (as : List Va) : Env := as.map some ++ List.replicate (N.length - as.length) none
def fin (S : Sto) (P : PV) : PV := fun v S' => ∃ v' S'', Shed S v S' v' S'' ∧ P v' S''
def finX (S : Sto) (E : PX) : PX := fun x S' => ∃ S'', Cut S S' S'' ∧ E x S''
def call (T : Tab) : Nat → Orc
  | 0, _, _, _, _, _ => False
  | k + 1, f, as, S, P, E => ∃ d, T f = some d ∧ as.length = d.ps.length ∧
      WSs (call T k) d.body { nx := fun _ S' => fin S P .non S', rt := fin S P, ex := fun x _ S' => finX S E x S' } (startA d.N as) S
theorem call_mono (T : Tab) : ∀ k, OrcMono (call T k)
  | 0 => fun _ _ _ _ _ _ _ _ _ h => h.elim
  | k + 1 => fun f vs S P P' E E' hP hE ⟨d, h1, h2, h⟩ => by
    have f1 : ∀ v S', fin S P v S' → fin S P' v S' := fun v S' ⟨v', S'', q, p⟩ => ⟨v', S'', q, hP _ _ p⟩
    exact ⟨d, h1, h2, WSs_mono (call_mono T k) d.body { nx := fun _ S' => fin S P .non S', rt := fin S P, ex := fun x _ S' => finX S E x S' } { nx := fun _ S' => fin S P' .non S', rt := fin S P', ex := fun x _ S' => finX S E' x S' } _ _ ⟨fun _ _ q => f1 _ _ q, f1, fun _ _ q => q, fun _ _ q => q, fun x _ S' ⟨S'', q, p⟩ => ⟨S'', q, hE _ _ p⟩⟩ h⟩
end AM
end

section
set_option linter.all false
set_option maxRecDepth 100000
set_option maxHeartbeats 4000000
/-! AM, fourth part: the syntax held against the program's text. -/
namespace AM
open PySem L2

def visB (sc : Scope) (x : Str) : Bool := (match sc.names.lookup x with
  | some .local => true | some .cell => true | some .free => true | _ => false) && !(x == ("__debug__" : Str)) && !(x == ("__classdict__" : Str))
def locB (sc : Scope) (x : Str) : Bool := match sc.names.lookup x with
  | some .local => true | some .cell => true | _ => false
def glB (sc : Scope) (x : Str) : Bool := (match sc.names.lookup x with
  | some .globalImplicit => true | _ => false) && !(x == ("__debug__" : Str)) && !(x == ("__name__" : Str))

def bopB : Bop → Operator → Bool
  | .add, .Add => true | .sub, .Sub => true | .mul, .Mult => true | .fdiv, .FloorDiv => true | .mod, .Mod => true | .pow, .Pow => true
  | _, _ => false
def copB : Cop → CmpOp → Bool
  | .eq, .Eq => true | .ne, .NotEq => true | .lt, .Lt => true | .le, .LtE => true | .gt, .Gt => true | .ge, .GtE => true
  | .isin, .In => true | .notin, .NotIn => true
  | _, _ => false
def tyN : Ty → Str
  | .int => "int" | .bool => "bool" | .str => "str" | .tuple => "tuple" | .list => "list" | .dict => "dict"
def tyS : Ty → String
  | .int => "int" | .bool => "bool" | .str => "str" | .tuple => "tuple" | .list => "list" | .dict => "dict"

/-- a test of no form of its own -/
def plainT : Expr → Bool
  | .UnaryOp .Not _ _ => false | .BoolOp _ _ _ => false | .IfExp _ _ _ _ => false | .Compare _ _ _ _ => false
  | _ => true
/-- a comparison -/
def isCmp : Ex → Bool
  | .cmp _ _ _ => true | .isN _ => true | .notN _ => true | .chain _ _ _ _ _ => true
  | _ => false
def noStar : Expr → Bool
  | .Starred _ _ => false
  | _ => true
def noSet : Expr → Bool
  | .Set _ _ _ => false
  | _ => true
def noSlice : Expr → Bool
  | .Slice _ _ _ _ => false
  | _ => true

def noTup : Expr → Bool
  | .Tuple _ _ _ => false
  | _ => true
/-- a base of an attribute that is not super() -/
def plainB : Expr → Bool
  | .Name _ _ => true | .Attribute _ _ _ => true | .Subscript _ _ _ => true | .Constant _ _ _ => true | .Call _ (_ :: _) _ _ => true
  | _ => false
def bfN : Bf → Str
  | .list => "list" | .tuple => "tuple" | .sum => "sum" | .max1 => "max" | .min1 => "min" | .max2 => "max" | .min2 => "min" | .sorted => "sorted" | .ord => "ord" | .str => "str" | .int => "int" | .all => "all" | .any => "any"
def mfN : Mf → Str
  | .append => "append" | .pop => "pop" | .extend => "extend" | .insert => "insert" | .join => "join" | .index => "index" | .clear => "clear"
def bfA : Bf → Nat
  | .max2 => 2 | .min2 => 2 | _ => 1
def mfA : Mf → Nat
  | .append => 1 | .pop => 0 | .extend => 1 | .insert => 2 | .join => 1 | .index => 1 | .clear => 0

structure Ctx where
  N : List Str
  sc : Scope
  xs : List Str
  fs : List Str
  lc : Str → Bool
/-- within a comprehension -/
def Ctx.inn (c : Ctx) (scope : Scope) : Ctx := ⟨c.N, relS scope c.sc, c.xs, c.fs, locB scope⟩
def ownA (N : List Str) (own : List Nat) : List (Str × Nat) := own.map fun i => (N.getD i "", i)
mutual
def ckG (c : Ctx) : Tg → Expr → Bool
  | .name i, e => (match e with
    | .Name x _ => decide (c.N[i]? = some x) && c.lc x
    | _ => false)
  | .tup ts, e => (match e with
    | .Tuple es _ _ => ckGs c ts es
    | _ => false)
def ckGs (c : Ctx) : Tgs → List Expr → Bool
  | .nil, es => (match es with
    | [] => true
    | _ => false)
  | .cons t ts, es => (match es with
    | e :: r => ckG c t e && noStar e && ckGs c ts r
    | _ => false)
end

mutual
def ckE (c : Ctx) : Ex → Expr → Bool
  | .var i, e => (match e with
    | .Name x _ => decide (c.N[i]? = some x) && visB c.sc x
    | _ => false)
  | .int i, e => (match e with
    | .Constant (.int j) _ _ => decide (i = j)
    | _ => false)
  | .bl b, e => (match e with
    | .Constant (.bool j) _ _ => decide (b = j)
    | _ => false)
  | .non, e => (match e with
    | .Constant .none _ _ => true
    | _ => false)
  | .str x, e => (match e with
    | .Constant (.str y) _ _ => decide (x = y)
    | _ => false)
  | .glob _, _ => false
  | .tup es, e => (match e with
    | .Tuple es' _ _ => ckL c es es'
    | _ => false)
  | .lst es, e => (match e with
    | .List es' _ => ckL c es es'
    | _ => false)
  | .bin op a b, e => (match e with
    | .BinOp a' op' b' _ => bopB op op' && ckE c a a' && ckE c b b'
    | _ => false)
  | .neg a, e => (match e with
    | .UnaryOp .USub a' _ => ckE c a a'
    | _ => false)
  | .cmp op a b, e => (match e with
    | .Compare a' [op'] [b'] _ => copB op op' && ckE c a a' && ckE c b b' && noSet b'
    | _ => false)
  | .isN a, e => (match e with
    | .Compare a' [.Is] [.Constant .none _ _] _ => ckE c a a'
    | _ => false)
  | .notN a, e => (match e with
    | .Compare a' [.IsNot] [.Constant .none _ _] _ => ckE c a a'
    | _ => false)
  | .chain op op' a b d, e => (match e with
    | .Compare a' [o1, o2] [b', d'] _ => copB op o1 && copB op' o2 && ckE c a a' && ckE c b b' && ckE c d d' && noSet d'
    | _ => false)
  | .tst t, e => ckT c t e
  | .ite t a b, e => (match e with
    | .IfExp t' a' b' _ => ckT c t t' && ckE c a a' && ckE c b b'
    | _ => false)
  | .call f es, e => (match e with
    | .Call (.Name x _) (e1 :: es') [] _ => decide (x = f) && glB c.sc x && ckL c es (e1 :: es') && c.fs.contains f
    | _ => false)
  | .len a, e => (match e with
    | .Call (.Name x _) [a'] [] _ => decide (x = "len") && glB c.sc x && ckE c a a' && noStar a'
    | _ => false)
  | .abs a, e => (match e with
    | .Call (.Name x _) [a'] [] _ => decide (x = "abs") && glB c.sc x && ckE c a a' && noStar a'
    | _ => false)
  | .isi a t, e => (match e with
    | .Call (.Name x _) [a', .Name y _] [] _ => decide (x = "isinstance") && glB c.sc x && decide (y = tyN t) && glB c.sc y && ckE c a a' && noStar a'
    | _ => false)
  | .sub a i, e => (match e with
    | .Subscript a' i' _ => ckE c a a' && ckE c i i' && noSlice i'
    | _ => false)
  | .slice a lo hi, e => (match e with
    | .Subscript a' (.Slice lo' hi' none _) _ => ckE c a a' && ckO c lo lo' && ckO c hi hi'
    | _ => false)
  | .blt f es, e => (match e with
    | .Call (.Name x _) (e1 :: es') [] _ => decide (x = bfN f) && glB c.sc x && ckL c es (e1 :: es') && decide (es'.length + 1 = bfA f)
    | _ => false)
  | .mth m o es, e => (match e with
    | .Call (.Attribute o' nm apos) es' [] cpos => decide (nm = mfN m) && ckE c o o' && ckL c es es' && (apos.endLine == cpos.line) && plainB o' && decide (es'.length = mfA m)
    | _ => false)
  | .comp own elt tg it cond, e => (match e with
    | .ListComp elt' [⟨tg', it', ifs, 0⟩] scope _ => blkC c.N c.sc scope (ownA c.N own) && ckI c it tg' it' && ckG (c.inn scope) tg tg' && (tgS tg).all own.contains && ckT0 (c.inn scope) cond ifs && ckE (c.inn scope) elt elt'
    | _ => false)
def ckO (c : Ctx) : Oe → Option Expr → Bool
  | .none, e => (match e with
    | none => true
    | _ => false)
  | .some m, e => (match e with
    | some e => ckE c m e
    | _ => false)
def ckI (c : Ctx) : It → Expr → Expr → Bool
  | .seq m, _, e => ckE c m e && noSet e
  | .range1 m, _, e => (match e with
    | .Call (.Name x _) [a] [] _ => decide (x = "range") && glB c.sc x && ckE c m a && noStar a
    | _ => false)
  | .range2 m n, _, e => (match e with
    | .Call (.Name x _) [a, b] [] _ => decide (x = "range") && glB c.sc x && ckE c m a && noStar a && ckE c n b && noStar b
    | _ => false)
  | .enum m, tg, e => (match tg, e with
    | .Tuple _ _ _, .Call (.Name x _) [a] [] _ => decide (x = "enumerate") && glB c.sc x && ckE c m a && noStar a
    | _, _ => false)
  | .zip m n, tg, e => (match tg, e with
    | .Tuple _ _ _, .Call (.Name x _) [a, b] [] _ => decide (x = "zip") && glB c.sc x && ckE c m a && noStar a && ckE c n b && noStar b
    | _, _ => false)
  | .rev m, _, e => (match e with
    | .Call (.Name x _) [a] [] _ => decide (x = "reversed") && glB c.sc x && ckE c m a && noStar a
    | _ => false)
def ckT0 (c : Ctx) : Tes0 → List Expr → Bool
  | .none, es => (match es with
    | [] => true
    | _ => false)
  | .some t, es => (match es with
    | [e] => ckT c t e
    | _ => false)
def ckT (c : Ctx) : Te → Expr → Bool
  | .val m, e => ckE c m e && (plainT e || isCmp m)
  | .not t, e => (match e with
    | .UnaryOp .Not a _ => ckT c t a
    | _ => false)
  | .and ts, e => (match e with
    | .BoolOp .And es _ => ckTs c ts es
    | _ => false)
  | .or ts, e => (match e with
    | .BoolOp .Or es _ => ckTs c ts es
    | _ => false)
def ckTs (c : Ctx) : Tes → List Expr → Bool
  | .one t, es => (match es with
    | [e] => ckT c t e
    | _ => false)
  | .cons t ts, es => (match es with
    | e :: e2 :: r => ckT c t e && ckTs c ts (e2 :: r)
    | _ => false)
def ckL (c : Ctx) : Exs → List Expr → Bool
  | .nil, es => (match es with
    | [] => true
    | _ => false)
  | .cons m ms, es => (match es with
    | e :: r => ckE c m e && noStar e && ckL c ms r
    | _ => false)
end

/-- a value that no comprehension gives -/
def noComp : Expr → Bool
  | .ListComp _ _ _ _ => false | .SetComp _ _ _ _ => false | .DictComp _ _ _ _ _ => false
  | _ => true

/-- a comprehension's list is put in no other way than a value is -/
def noSwap (sc : Scope) (x : Str) (p : Pos) : Expr → Bool
  | .ListComp _ _ scope pos => !(decide (sc.names.lookup x = some .local) && (p.line == pos.line) && !(scope.names.any fun (n, k) => n == x && (k == .local || k == .cell)))
  | e => noComp e
/-- .. but in another -/
def yesSwap (sc : Scope) (x : Str) (p : Pos) : Expr → Bool
  | .ListComp _ _ scope pos => decide (sc.names.lookup x = some .local) && (p.line == pos.line) && !(scope.names.any fun (n, k) => n == x && (k == .local || k == .cell))
  | _ => false

mutual
def ckS (c : Ctx) : Sm → Stmt → Bool
  | .set i m, s => (match s with
    | .Assign [.Name x p] e _ => decide (c.N[i]? = some x) && c.lc x && ckE c m e && noSwap c.sc x p e
    | _ => false)
  | .asg tg m, s => (match s with
    | .Assign [.Tuple es k p] e _ => ckG c tg (.Tuple es k p) && ckE c m e && noComp e && noTup e
    | _ => false)
  | .setSub o i m, s => (match s with
    | .Assign [.Subscript o' i' _] e _ => ckE c o o' && ckE c i i' && ckE c m e && noSlice i' && noComp e
    | _ => false)
  | .aug i op m, s => (match s with
    | .AugAssign (.Name x _) op' e _ => decide (c.N[i]? = some x) && c.lc x && (bopB op op' && (decide (op = .add) || decide (op = .sub))) && ckE c m e
    | _ => false)
  | .setC i own elt tg it cond, s => (match s with
    | .Assign [.Name x p] (.ListComp elt' [⟨tg', it', ifs, 0⟩] scope pos) _ => decide (c.N[i]? = some x) && yesSwap c.sc x p (.ListComp elt' [⟨tg', it', ifs, 0⟩] scope pos) &&
        (blkC c.N c.sc scope (ownA c.N own) && ckI c it tg' it' && ckG (c.inn scope) tg tg' && (tgS tg).all own.contains && ckT0 (c.inn scope) cond ifs && ckE (c.inn scope) elt elt')
    | _ => false)
  | .for_ tg it b, s => (match s with
    | .For tg' it' bd [] _ => ckI c it tg' it' && ckG c tg tg' && ckSs c b bd
    | _ => false)
  | .ret m, s => (match s with
    | .Return (some e) _ => ckE c m e
    | _ => false)
  | .retN, s => (match s with
    | .Return none _ => true
    | _ => false)
  | .pass, s => (match s with
    | .Pass _ => true
    | .Expr (.Constant (.str _) _ _) _ => true
    | _ => false)
  | .brk, s => (match s with
    | .Break _ => true
    | _ => false)
  | .cont, s => (match s with
    | .Continue _ => true
    | _ => false)
  | .drop m, s => (match s with
    | .Expr e _ => ckE c m e && noComp e
    | _ => false)
  | .ite t a b, s => (match s with
    | .If e x y _ => ckT c t e && ckSs c a x && ckSs c b y
    | _ => false)
  | .whil t b, s => (match s with
    | .While e x [] _ => ckT c t e && ckSs c b x
    | _ => false)
  | .raise x, s => (match s with
    | .Raise (some (.Call (.Name y _) [.Constant (.str _) _ _] [] _)) none _ => decide (y = x) && glB c.sc y && c.xs.contains x
    | _ => false)
def ckSs (c : Ctx) : Sms → List Stmt → Bool
  | .nil, ss => (match ss with
    | [] => true
    | _ => false)
  | .cons m ms, ss => (match ss with
    | s :: r => ckS c m s && ckSs c ms r
    | _ => false)
end
def nodupB : List Str → Bool
  | [] => true
  | x :: r => !r.contains x && nodupB r
/-- a def of the text -/
def ckF (xs fs : List Str) (d : Fn) (st : Stmt) : Bool := match st with
  | .FunctionDef _ a b _ _ _ sc _ _ _ => ckSs ⟨d.N, sc, xs, fs, locB sc⟩ d.body b && decide (sc.kind = .function) && !sc.isCoroutine && !sc.isGenerator && decide d.N.Nodup && decide (d.N.take d.ps.length = d.ps)
      && d.ps.all (fun x => locB sc x) && sc.names.all (fun y => decide (y.2 ≠ .free))
      && decide (a.args.map (·.arg) = d.ps) && a.posonlyargs.isEmpty && a.vararg.isNone && a.kwonlyargs.isEmpty && a.kw_defaults.isEmpty && a.kwarg.isNone && a.defaults.isEmpty
  | _ => false
end AM
end

section
set_option linter.all false
set_option maxRecDepth 100000
set_option maxHeartbeats 4000000
/-! AM, fifth part: expressions are sound. -/
namespace AM
open PySem L2

theorem _root_.L2.PE.weak {X : Cx} {e : Expr} {t t' : TE} (h : PE X e t) (w : ∀ σ H Q, t' σ H Q → t σ H Q) : PE X e t' := ⟨fun pins s σ H Q I q => h.run pins s σ H Q I (w _ _ _ q)⟩
theorem _root_.L2.PT.weak {X : Cx} {e : Expr} {t t' : TT} (h : PT X e t) (w : ∀ σ H Q, t' σ H Q → t σ H Q) : PT X e t' := ⟨fun pins s σ H Q I q => h.run pins s σ H Q I (w _ _ _ q)⟩
theorem _root_.L2.PW.weak {X : Cx} {e : Expr} {t t' : TT} (h : PW X e t) (w : ∀ σ H Q, t' σ H Q → t σ H Q) : PW X e t' := ⟨fun wh pins s σ H Q I q => h.run wh pins s σ H Q I (w _ _ _ q)⟩
theorem _root_.L2.PA.weak {X : Cx} {e : List Expr} {t t' : TA} (h : PA X e t) (w : ∀ σ H Q, t' σ H Q → t σ H Q) : PA X e t' := ⟨fun pos pins s σ H Q I q => h.run pos pins s σ H Q I (w _ _ _ q)⟩

section
variable (K : PySem.W.Frag) (cA : Str → Addr)
def post (F : Hp) (β : List Addr) (Q : VK) : PV := fun v S' => ∀ F' β' H' x, Ext F β F' β' → Sim K cA F' β' S' H' → VR K F' β' v x → Q x H'
def postL (F : Hp) (β : List Addr) (Q : List V → Hp → Prop) : PL := fun v S' => ∀ F' β' H' x, Ext F β F' β' → Sim K cA F' β' S' H' → VRs K F' β' v x → Q x H'
def postB (F : Hp) (β : List Addr) (Q : Bool → Hp → Prop) : Bool → Sto → Prop := fun v S' => ∀ F' β' H', Ext F β F' β' → Sim K cA F' β' S' H' → Q v H'
def postX (F : Hp) (β : List Addr) (Wx : WX) (σ : St) : PX := fun c S' => ∀ F' β' H', Ext F β F' β' → Sim K cA F' β' S' H' → Wx (.ref (cA c)) none σ H'
def liftE (Wx : WX) (w : Env → Sto → PV → PX → Prop) : TE := fun σ H Q => ∃ F β Γ S, Sim K cA F β S H ∧ EnvR K F β Γ σ ∧ w Γ S (post K cA F β Q) (postX K cA F β Wx σ)
def liftL (Wx : WX) (w : Env → Sto → PL → PX → Prop) : TA := fun σ H Q => ∃ F β Γ S, Sim K cA F β S H ∧ EnvR K F β Γ σ ∧ w Γ S (postL K cA F β Q) (postX K cA F β Wx σ)
def liftT (Wx : WX) (w : Env → Sto → (Bool → Sto → Prop) → PX → Prop) : TT := fun σ H Q => ∃ F β Γ S, Sim K cA F β S H ∧ EnvR K F β Γ σ ∧ w Γ S (postB K cA F β Q) (postX K cA F β Wx σ)
end

section
variable (K : PySem.W.Frag) (cA : Str → Addr)
/-- an iterator over xs, while G stands -/
structure ItOk (F : Hp) (β : List Addr) (J : L2.It) (xs : List Va) (G : Sto → Prop) : Prop where
  go : ∀ F' β' S H i, Ext F β F' β' → Sim K cA F' β' S H → G S → i < xs.length → J.go i H
  stop : ∀ F' β' S H, Ext F β F' β' → Sim K cA F' β' S H → G S → J.stop xs.length H
  yld : ∀ F' β' S H i x H', Ext F β F' β' → Sim K cA F' β' S H → G S → i < xs.length → J.yld i H x H' → ∃ F2 v, xs[i]? = some v ∧ Ext F' β' F2 β' ∧ Sim K cA F2 β' S H' ∧ VR K F2 β' v x
def postI (F : Hp) (β : List Addr) (R : L2.It → Hp → Prop) : PI_ := fun xs G S' => ∀ F' β' H' J, Ext F β F' β' → Sim K cA F' β' S' H' → ItOk K cA F' β' J xs G → R J H'
def postO (F : Hp) (β : List Addr) (Q : Option Int → Hp → Prop) : Option Int → Sto → Prop := fun o S' => ∀ F' β' H', Ext F β F' β' → Sim K cA F' β' S' H' → Q o H'
def liftI (Wx : WX) (w : Env → Sto → PI_ → PX → Prop) : TI := fun σ H R => ∃ F β Γ S, Sim K cA F β S H ∧ EnvR K F β Γ σ ∧ w Γ S (postI K cA F β R) (postX K cA F β Wx σ)
def liftO (Wx : WX) (w : Env → Sto → (Option Int → Sto → Prop) → PX → Prop) : TO := fun σ H R => ∃ F β Γ S, Sim K cA F β S H ∧ EnvR K F β Γ σ ∧ w Γ S (postO K cA F β R) (postX K cA F β Wx σ)
end
theorem _root_.L2.PI.weak {X : Cx} {tg e : Expr} {t t' : TI} (h : PI X tg e t) (w : ∀ σ H Q, t' σ H Q → t σ H Q) : PI X tg e t' := ⟨fun pins s σ H Q I q => h.run pins s σ H Q I (w _ _ _ q)⟩
theorem _root_.L2.PO.weak {X : Cx} {e : Option Expr} {t t' : TO} (h : PO X e t) (w : ∀ σ H Q, t' σ H Q → t σ H Q) : PO X e t' := ⟨fun pins s σ H Q I q => h.run pins s σ H Q I (w _ _ _ q)⟩
theorem _root_.L2.PG.weak {X : Cx} {e : Expr} {t t' : TG} (h : PG X e t) (w : ∀ v σ H Q, t' v σ H Q → t v σ H Q) : PG X e t' := ⟨fun pins s σ H v u Q I r q => h.run pins s σ H v u Q I r (w _ _ _ _ q)⟩
theorem _root_.L2.PGs.weak {X : Cx} {e : List Expr} {t t' : TGs} (h : PGs X e t) (w : ∀ v σ H Q, t' v σ H Q → t v σ H Q) : PGs X e t' := ⟨fun pins s σ H v u Q I r q => h.run pins s σ H v u Q I r (w _ _ _ _ q)⟩
theorem _root_.L2.PG.or {X : Cx} {e : Expr} {t t' : TG} (h : PG X e t) (h' : PG X e t') : PG X e (fun v σ H Q => t v σ H Q ∨ t' v σ H Q) := ⟨fun pins s σ H v u Q I r q => q.elim (fun q => h.run pins s σ H v u Q I r q) fun q => h'.run pins s σ H v u Q I r q⟩
theorem _root_.L2.PTs.weak {X : Cx} {e : List Expr} {t t' : TT} (h : PTs X e t) (w : ∀ σ H Q, t' σ H Q → t σ H Q) : PTs X e t' := ⟨fun pins s σ H Q I q => h.run pins s σ H Q I (w _ _ _ q)⟩

/-- a def's promise -/
def spI (K : PySem.W.Frag) (cA : Str → Addr) (C : Orc) (f : Str) : Sp := fun vs H Q E => ∃ F β S as, Sim K cA F β S H ∧ VRs K F β as vs ∧
  C f as S (post K cA F β Q) (fun c S' => ∀ F' β' H', Ext F β F' β' → Sim K cA F' β' S' H' → E (.ref (cA c)) none H')

def bltNames : List Str := ["len", "abs", "isinstance", "int", "bool", "str", "tuple", "list", "dict", "range", "max", "min", "sum", "sorted", "reversed", "enumerate", "zip", "all", "any", "ord"]

theorem vis_of {sc : Scope} {x : Str} (h : visB sc x = true) : Vis sc x := by
  have h1 := (Bool.and_eq_true_iff.mp (Bool.and_eq_true_iff.mp h).1).1
  unfold Vis
  split at h1
  · exact .inl (by assumption)
  · exact .inr (.inl (by assumption))
  · exact .inr (.inr (by assumption))
  · cases h1
theorem loc_of {sc : Scope} {x : Str} (h : locB sc x = true) : sc.names.lookup x = some .local ∨ sc.names.lookup x = some .cell := by
  unfold locB at h
  split at h
  · exact .inl (by assumption)
  · exact .inr (by assumption)
  · cases h
theorem gl_of {sc : Scope} {x : Str} (h : glB sc x = true) : sc.names.lookup x = some .globalImplicit := by
  have h1 := (Bool.and_eq_true_iff.mp (Bool.and_eq_true_iff.mp h).1).1
  split at h1
  · assumption
  · cases h1
structure Gd (c : Ctx) (cA : Str → Addr) (T : Tab) (k : Nat) (Wx : WX) (X : Cx) : Prop where
  hN : X.N = c.N
  nd : X.N.Nodup
  sc : X.env.scope = c.sc
  kind : c.sc.kind = .function
  loc : ∀ x, c.lc x = true → Loc X.env.scope x ∧ (X.fn x = true ∨ X.env.scope.names.lookup x = some .local)
  calm : X.calm = true
  room : Room k X.A
  tk : Takes X Wx
  pass : PassesOwn (model X.prog X.w) X.A X.env X.xe
  blt : ∀ x ∈ bltNames, X.mg x = none
  fn : ∀ f ∈ c.fs, ∃ d a fd, T f = some d ∧ X.mg f = some (.ref a) ∧ PySem.W.keepIn X.K (.ref a) = true ∧ Binds X.K fd d.ps [] ∧ FnOk X.prog X.w X.K X.mg X.base (L2.CX X.prog X.w) k a fd d.ps (spI X.K cA (call T k) f)
  exc : ∀ x ∈ c.xs, X.mg x = some (.ref (cA x)) ∧ PySem.W.excIn X.K (cA x) [.type "ValueError", .type "Exception", .type "BaseException", .type "object"] "ValueError.__new__" = true ∧ PySem.W.keepIn X.K (.ref (cA x)) = true ∧ Raises X (.ref (cA x))
theorem Gd.vis {c : Ctx} {cA : Str → Addr} {T : Tab} {k : Nat} {Wx : WX} {X : Cx} (g : Gd c cA T k Wx X) (x : Str) (h : visB c.sc x = true) : Vis X.env.scope x := by
  rw [g.sc]; exact vis_of h
theorem Gd.gl {c : Ctx} {cA : Str → Addr} {T : Tab} {k : Nat} {Wx : WX} {X : Cx} (g : Gd c cA T k Wx X) (x : Str) (h : glB c.sc x = true) : Gl X x := by
  show X.env.scope.names.lookup x = _
  rw [g.sc]; exact gl_of h
theorem rel_lk {sc : Scope} {x : Str} {k : NameKind} : ∀ {l : List (Str × NameKind)}, l.lookup x = some k → (l.map fun (n, k) => if (k == NameKind.free && sc.kind == .function && sc.names.lookup n == some .cell) then (n, NameKind.cell) else (n, k)).lookup x = some (if (k == NameKind.free && sc.kind == .function && sc.names.lookup x == some .cell) then NameKind.cell else k)
  | [], h => by simp at h
  | (n, j) :: r, h => by
    have ih := @rel_lk sc x k r
    show List.lookup x ((if (j == NameKind.free && sc.kind == .function && sc.names.lookup n == some .cell) = true then (n, NameKind.cell) else (n, j)) :: _) = _
    cases hx : x == n with
    | true =>
      have e : x = n := by simpa using hx
      subst e
      rw [List.lookup_cons, hx] at h
      cases h
      by_cases hc : (k == NameKind.free && sc.kind == .function && sc.names.lookup x == some .cell) = true
      · rw [if_pos hc, if_pos hc, List.lookup_cons, hx]
      · rw [if_neg hc, if_neg hc, List.lookup_cons, hx]
    | false =>
      rw [List.lookup_cons, hx] at h
      by_cases hc : (j == NameKind.free && sc.kind == .function && sc.names.lookup n == some .cell) = true
      · rw [if_pos hc, List.lookup_cons, hx]; exact ih h
      · rw [if_neg hc, List.lookup_cons, hx]; exact ih h
theorem Gd.inn {c : Ctx} {cA : Str → Addr} {T : Tab} {k : Nat} {Wx : WX} {X : Cx} (g : Gd c cA T k Wx X) {scope : Scope} (hk : scope.kind = .function) (s : Shared) (H : Hp) (C : Addr) (cl : List (Str × Addr)) (fp : List Addr) :
    Gd (c.inn scope) cA T k (fun _ _ _ _ => False) (X.blk s H scope (compEnvC scope cl C X.env) fp) where
  hN := g.hN
  nd := g.nd
  sc := by
    show relS scope X.env.scope = relS scope c.sc
    rw [g.sc]
  kind := hk
  loc := fun x h => by
    have h1 : locB scope x = true := h
    have hz : ∀ k, k ≠ NameKind.free → scope.names.lookup x = some k → (relS scope X.env.scope).names.lookup x = some k := fun k hk e => by
      have e1 := rel_lk (sc := X.env.scope) e
      have e2 : (k == NameKind.free) = false := by cases k <;> first | rfl | exact absurd rfl hk
      rw [e2] at e1
      exact e1
    rcases loc_of h1 with e | e
    · exact ⟨.inl (hz _ (by decide) e), .inr (hz _ (by decide) e)⟩
    · refine ⟨.inr (hz _ (by decide) e), .inl ?_⟩
      show (scope.names.lookup x == some .cell) = true
      rw [e]; rfl
  calm := g.calm
  room := g.room
  tk := by
    rintro u s' ⟨_, _, _, _, _, _, _, _, _, _, _, _, _, _, _, _, z⟩
    exact z.elim
  pass := PassesOwn.never
  blt := g.blt
  fn := g.fn
  exc := g.exc

section
variable {K : PySem.W.Frag} {cA : Str → Addr} {F F' : Hp} {β β' : List Addr}
theorem post_ext {Q : VK} (e : Ext F β F' β') {v : Va} {S : Sto} (h : post K cA F β Q v S) : post K cA F' β' Q v S := fun F2 β2 H2 x e2 s r => h F2 β2 H2 x (e.trans e2) s r
theorem postX_ext {Wx : WX} {σ : St} (e : Ext F β F' β') : ∀ (c : Str) (S : Sto), postX K cA F β Wx σ c S → postX K cA F' β' Wx σ c S := fun c S h F2 β2 H2 e2 s => h F2 β2 H2 (e.trans e2) s
theorem EnvR.ext {Γ : Env} {σ : St} (e : Ext F β F' β') (h : EnvR K F β Γ σ) : EnvR K F' β' Γ σ := EnvR.mono e.sub e.pre Γ σ h
theorem VR.ext {v : Va} {x : V} (e : Ext F β F' β') (h : VR K F β v x) : VR K F' β' v x := VR.mono e.sub e.pre v x h
theorem VRs.ext {v : List Va} {x : List V} (e : Ext F β F' β') (h : VRs K F β v x) : VRs K F' β' v x := VRs.mono e.sub e.pre v x h
theorem post_here {Q : VK} {v : Va} {S : Sto} {H : Hp} {x : V} (s : Sim K cA F β S H) (r : VR K F β v x) (h : post K cA F β Q v S) : Q x H := h F β H x (Ext.refl F β) s r
end

section
variable {K : PySem.W.Frag} {cA : Str → Addr} {C : Orc} (hC : OrcMono C) {F : Hp} {β : List Addr} {S : Sto} {H : Hp} {Γ : Env} {σ : St} {Wx : WX}
include hC
theorem runE {m : Ex} {R : PV} {E0 : PX} {Q1 : VK} (s : Sim K cA F β S H) (g : EnvR K F β Γ σ) (w : W C m Γ S R E0) (hE : ∀ c S, E0 c S → postX K cA F β Wx σ c S)
    (h : ∀ F' β' S1 H1 v x, Ext F β F' β' → Sim K cA F' β' S1 H1 → VR K F' β' v x → R v S1 → Q1 x H1) : liftE K cA Wx (W C m) σ H Q1 :=
  ⟨F, β, Γ, S, s, g, W_mono hC m _ _ _ _ _ _ (fun v S1 r F' β' H' x e s' vr => h F' β' S1 H' v x e s' vr r) hE w⟩
theorem runB {m : Te} {R : PV} {E0 : PX} {Q1 : VK} (s : Sim K cA F β S H) (g : EnvR K F β Γ σ) (w : WB C m Γ S R E0) (hE : ∀ c S, E0 c S → postX K cA F β Wx σ c S)
    (h : ∀ F' β' S1 H1 v x, Ext F β F' β' → Sim K cA F' β' S1 H1 → VR K F' β' v x → R v S1 → Q1 x H1) : liftE K cA Wx (WB C m) σ H Q1 :=
  ⟨F, β, Γ, S, s, g, WB_mono hC m _ _ _ _ _ _ (fun v S1 r F' β' H' x e s' vr => h F' β' S1 H' v x e s' vr r) hE w⟩
theorem runT {m : Te} {R : Bool → Sto → Prop} {E0 : PX} {Q1 : Bool → Hp → Prop} (s : Sim K cA F β S H) (g : EnvR K F β Γ σ) (w : WT C m Γ S R E0) (hE : ∀ c S, E0 c S → postX K cA F β Wx σ c S)
    (h : ∀ F' β' S1 H1 v, Ext F β F' β' → Sim K cA F' β' S1 H1 → R v S1 → Q1 v H1) : liftT K cA Wx (WT C m) σ H Q1 :=
  ⟨F, β, Γ, S, s, g, WT_mono hC m _ _ _ _ _ _ (fun v S1 r F' β' H' e s' => h F' β' S1 H' v e s' r) hE w⟩
theorem runL {m : Exs} {R : PL} {E0 : PX} {Q1 : List V → Hp → Prop} (s : Sim K cA F β S H) (g : EnvR K F β Γ σ) (w : WL C m Γ S R E0) (hE : ∀ c S, E0 c S → postX K cA F β Wx σ c S)
    (h : ∀ F' β' S1 H1 v x, Ext F β F' β' → Sim K cA F' β' S1 H1 → VRs K F' β' v x → R v S1 → Q1 x H1) : liftL K cA Wx (WL C m) σ H Q1 :=
  ⟨F, β, Γ, S, s, g, WL_mono hC m _ _ _ _ _ _ (fun v S1 r F' β' H' x e s' vr => h F' β' S1 H' v x e s' vr r) hE w⟩
end

section
variable {K : PySem.W.Frag} {cA : Str → Addr} {C : Orc} (hC : OrcMono C) {F : Hp} {β : List Addr} {S : Sto} {H : Hp} {Γ : Env} {σ : St} {Wx : WX}
include hC
theorem runO {m : Oe} {R : Option Int → Sto → Prop} {E0 : PX} {Q1 : Option Int → Hp → Prop} (s : Sim K cA F β S H) (g : EnvR K F β Γ σ) (w : WOe C m Γ S R E0) (hE : ∀ c S, E0 c S → postX K cA F β Wx σ c S)
    (h : ∀ F' β' S1 H1 v, Ext F β F' β' → Sim K cA F' β' S1 H1 → R v S1 → Q1 v H1) : liftO K cA Wx (WOe C m) σ H Q1 :=
  ⟨F, β, Γ, S, s, g, WOe_mono hC m _ _ _ _ _ _ (fun v S1 r F' β' H' e s' => h F' β' S1 H' v e s' r) hE w⟩
theorem runI {m : It} {R : PI_} {E0 : PX} {Q1 : L2.It → Hp → Prop} (s : Sim K cA F β S H) (g : EnvR K F β Γ σ) (w : WI C m Γ S R E0) (hE : ∀ c S, E0 c S → postX K cA F β Wx σ c S)
    (h : ∀ F' β' S1 H1 J xs G, Ext F β F' β' → Sim K cA F' β' S1 H1 → ItOk K cA F' β' J xs G → R xs G S1 → Q1 J H1) : liftI K cA Wx (WI C m) σ H Q1 :=
  ⟨F, β, Γ, S, s, g, WI_mono hC m _ _ _ _ _ _ (fun xs G S1 r F' β' H' J e s' i => h F' β' S1 H' J xs G e s' i r) hE w⟩
end

/-! ### what is laid anew, read -/
section
variable {K : PySem.W.Frag} {cA : Str → Addr} {F : Hp} {β : List Addr} {S : Sto} {H : Hp} {Q : VK}
theorem post_new {xs : List Va} {ys : List V} (s : Sim K cA F β S H) (r : VRs K F β xs ys) (h : post K cA F β Q (.loc S.length) (S ++ [.lst xs])) : ∀ p, H p = none → Q (.ref p) (upd H p (.lst ys)) := fun p hp => by
  have s2 := s.new hp (o := .lst xs) (u := .lst ys) ⟨ys, upd_same, VRs.mono (Same.refl _) (List.prefix_append _ _) _ _ r⟩
  refine h _ _ _ _ ⟨Same.refl _, List.prefix_append _ _⟩ s2 ⟨p, rfl, ?_⟩
  rw [← s.len]; simp
theorem post_tup {xs : List Va} {ys : List V} (s : Sim K cA F β S H) (r : VRs K F β xs ys) (h : post K cA F β Q (.tup xs) S) : ∀ p, H p = none → Q (.ref p) (upd H p (.tup ys)) := fun p hp => by
  obtain ⟨s2, sb⟩ := s.lay hp (.tup ys)
  exact h _ _ _ _ ⟨sb, List.prefix_refl _⟩ s2 ⟨p, ys, rfl, SqT.of upd_same, VRs.mono sb (List.prefix_refl _) _ _ r⟩
theorem LV.ok {v : Va} {x : V} {xs : List Va} (s : Sim K cA F β S H) (h : LV S v xs) (r : VR K F β v x) : ∃ a ys, x = .ref a ∧ H a = some (.lst ys) ∧ VRs K F β xs ys := by
  rcases h with rfl | ⟨k, rfl, hk⟩
  · obtain ⟨a, ys, rfl, t, q⟩ := r
    exact ⟨a, ys, rfl, s.sub _ _ t, q⟩
  · obtain ⟨a, rfl, t⟩ := r
    obtain ⟨b, e1, _, ys, e2, q⟩ := s.at hk
    rw [t] at e1
    cases (Option.some.inj e1)
    exact ⟨a, ys, rfl, e2, q⟩
theorem flat_ok {v : Va} {x : V} (h : flat v = true) (r : VR K F β v x) : flatV x = true := by
  cases v <;> first | (cases r; rfl) | cases h
theorem flats_ok : ∀ {xs : List Va} {ys : List V}, xs.all flat = true → VRs K F β xs ys → ys.all flatV = true
  | [], _, _, r => by cases (show _ = [] from r); rfl
  | x :: xs, _, h, ⟨y, t, e, q, qs⟩ => by
    subst e
    rw [List.all_cons, Bool.and_eq_true] at h ⊢
    exact ⟨flat_ok h.1 q, flats_ok h.2 qs⟩
theorem eqW_ok {v u : Va} {x y : V} (h1 : flat v = true) (h2 : flat u = true) (r1 : VR K F β v x) (r2 : VR K F β u y) : eqV x y = eqW v u := by
  cases v <;> cases u <;> first | exact (Bool.false_ne_true h1).elim | exact (Bool.false_ne_true h2).elim | (cases r1; cases r2; rfl)
theorem inW_ok {u : Va} {y : V} (h2 : flat u = true) (r2 : VR K F β u y) : ∀ {xs : List Va} {ys : List V}, xs.all flat = true → VRs K F β xs ys → inV y ys = xs.any fun z => eqW z u
  | [], _, _, r => by cases (show _ = [] from r); rfl
  | x :: xs, _, h, ⟨z, t, e, q, qs⟩ => by
    subst e
    rw [List.all_cons, Bool.and_eq_true] at h
    have ih := inW_ok h2 r2 h.2 qs
    unfold inV at ih ⊢
    rw [List.any_cons, List.any_cons, ih, eqW_ok h.1 h2 q r2]
theorem str1 {x : Str} (h : x.length = 1) : x = ⟨#[x.cps.getD 0 0]⟩ := by
  obtain ⟨⟨l⟩⟩ := x
  match l, h with
  | [c], _ => rfl
end

/-! ### operators by values -/
section
variable {X : Cx} {cA : Str → Addr}
theorem CMulA.ok {i j : Int} (h : CMulA i j) : IntMulOk i j := by
  have b : ∀ x : Int, Builtin.Int.intBits x ≤ x.natAbs.log2 + 1 := fun x => by
    unfold Builtin.Int.intBits
    split <;> omega
  have h1 := b i
  have h2 := b j
  have h3 : i.natAbs.log2 + j.natAbs.log2 < 134000000 := h
  have e : bitsLine = 134217728 := by decide
  unfold IntMulOk
  intro z
  rw [Bool.and_eq_true] at z
  have z2 := z.2
  unfold Builtin.Int.intTooBig at z2
  have z3 := of_decide_eq_true z2
  rw [e] at z3
  omega
theorem op_mulA : OpR X (binaryOp .Mult) (rI CMulA fun i j => .int (i * j)) := opI fun _ _ _ _ _ _ _ hc q => PyProof.Rows.mul_int q hc.ok
theorem op_fdivA : OpR X (binaryOp .FloorDiv) (rI (fun _ j => CDivA j) fun i j => .int (i.fdiv j)) := opI fun i j _ _ _ _ _ hc q => PyProof.Rows.floordiv_int hc.1 q (.inl (PyProof.noPylong_of_log2 hc.2))
/-- what an operator's rule must give -/
def OpS (X : Cx) (cA : Str → Addr) (g : Va → Va → Sto → PV → Prop) (r : R2) : Prop := ∀ (F : Hp) (β : List Addr) (S : Sto) (H : Hp) (v u : Va) (x y : V) (Q : VK), Sim X.K cA F β S H → VR X.K F β v x → VR X.K F β u y → g v u S (post X.K cA F β Q) → r x y H Q
theorem bin_ok {op : Bop} {op' : Operator} (h : bopB op op' = true) : ∃ r, OpR X (binaryOp op') r ∧ OpS X cA (wBin op) r := by
  unfold bopB at h
  split at h
  · refine ⟨_, ((op_add.or op_add_str).or op_cat).or op_catT, fun F β S H v u x y Q s r1 r2 q => ?_⟩
    have cat : ∀ {v u : Va}, VR X.K F β v x → VR X.K F β u y → wCat v u S (post X.K cA F β Q) → rCat x y H Q := fun r1 r2 ⟨xs, h1, ys, h2, h3, q⟩ => by
      obtain ⟨a, zs, rfl, t1, q1⟩ := h1.ok s r1
      obtain ⟨b, ws, rfl, t2, q2⟩ := h2.ok s r2
      exact ⟨a, b, zs, ws, rfl, rfl, t1, t2, by rw [← q1.len, ← q2.len]; exact Nat.le_trans h3 (by decide), post_new s (q1.append q2) q⟩
    unfold wBin at q
    split at q <;> first | exact q.elim | skip
    all_goals simp only [reduceCtorEq] at *
    · cases r1; cases r2; exact .inl (.inl (.inl ⟨_, _, rfl, rfl, post_here (v := .int _) s rfl q⟩))
    · cases r1; cases r2; exact .inl (.inl (.inr ⟨_, _, rfl, rfl, q.1, post_here (v := .str _) s rfl q.2⟩))
    · exact .inl (.inr (cat r1 r2 q))
    · exact .inl (.inr (cat r1 r2 q))
    · obtain ⟨h1, h2, q⟩ := q
      obtain ⟨a, zs, rfl, t1, q1⟩ := r1
      obtain ⟨b, ws, rfl, t2, q2⟩ := r2
      refine .inr ⟨a, b, zs, ws, rfl, rfl, SqT.mono s.sub t1, SqT.mono s.sub t2, ?_, by rw [← q1.len, ← q2.len]; exact Nat.le_trans h2 (by decide), ?_, ?_⟩
      · intro e; subst e
        have := q1.len
        cases ‹List Va› <;> simp_all
      · intro e; subst e
        have e2 := q2.len
        have e3 := List.eq_nil_of_length_eq_zero (show List.length _ = 0 from e2)
        subst e3
        rw [List.append_nil] at q
        exact q F β H _ (Ext.refl _ _) s ⟨a, zs, rfl, t1, q1⟩
      · intro _
        exact post_tup s (q1.append q2) q
  · refine ⟨_, op_sub, fun F β S H v u x y Q s r1 r2 q => ?_⟩
    unfold wBin at q
    split at q <;> first | exact q.elim | skip
    all_goals simp only [reduceCtorEq] at *
    · cases r1; cases r2; exact ⟨_, _, rfl, rfl, post_here (v := .int _) s rfl q⟩
  · refine ⟨_, op_mulA, fun F β S H v u x y Q s r1 r2 q => ?_⟩
    unfold wBin at q
    split at q <;> first | exact q.elim | skip
    all_goals simp only [reduceCtorEq] at *
    · cases r1; cases r2; exact ⟨_, _, rfl, rfl, q.1, post_here (v := .int _) s rfl q.2⟩
  · refine ⟨_, op_fdivA, fun F β S H v u x y Q s r1 r2 q => ?_⟩
    unfold wBin at q
    split at q <;> first | exact q.elim | skip
    all_goals simp only [reduceCtorEq] at *
    · cases r1; cases r2; exact ⟨_, _, rfl, rfl, q.1, post_here (v := .int _) s rfl q.2⟩
  · refine ⟨_, op_modN, fun F β S H v u x y Q s r1 r2 q => ?_⟩
    unfold wBin at q
    split at q <;> first | exact q.elim | skip
    all_goals simp only [reduceCtorEq] at *
    · cases r1; cases r2; exact ⟨_, _, rfl, rfl, q.1, post_here (v := .int _) s rfl q.2⟩
  · refine ⟨_, op_pow, fun F β S H v u x y Q s r1 r2 q => ?_⟩
    unfold wBin at q
    split at q <;> first | exact q.elim | skip
    all_goals simp only [reduceCtorEq] at *
    · cases r1; cases r2; exact ⟨_, _, rfl, rfl, q.1, post_here (v := .int _) s rfl q.2⟩
  · cases h
end

/-! ### comparisons -/
section
variable {K : PySem.W.Frag} {cA : Str → Addr} {F : Hp} {β : List Addr} {S : Sto} {H : Hp}
mutual
theorem DV.dp (s : Sim K cA F β S H) : ∀ {v : Va} {d : PyData}, DV S v d → ∀ {x : V}, VR K F β v x → Dp K H x d
  | _, _, .non, x, r => by cases (show x = .non from r); exact .non
  | _, _, .bl b, x, r => by cases (show x = .bl b from r); exact .bl b
  | _, _, .int i, x, r => by cases (show x = .int i from r); exact .int i
  | _, _, .str z, x, r => by cases (show x = .str z from r); exact .str z
  | _, _, .tup q, x, ⟨a, ys, e, t, r⟩ => by subst e; exact .tup (SqT.mono s.sub t) (DVs.dp s q r)
  | _, _, .lst q, x, ⟨a, ys, e, t, r⟩ => by subst e; exact .lst (SqL.of (s.sub _ _ t)) (DVs.dp s q r)
  | _, _, .loc hk q, x, ⟨a, e, t⟩ => by
    subst e
    obtain ⟨b, e1, _, ys, e2, r⟩ := s.at hk
    rw [t] at e1
    cases (Option.some.inj e1)
    exact .lst (SqL.of e2) (DVs.dp s q r)
theorem DVs.dp (s : Sim K cA F β S H) : ∀ {v : List Va} {d : List PyData}, DVs S v d → ∀ {x : List V}, VRs K F β v x → DpAll K H x d
  | _, _, .nil, x, r => by cases (show x = [] from r); exact .nil
  | _, _, .cons q qs, x, ⟨y, t, e, r, rs⟩ => by subst e; exact .cons (DV.dp s q r) (DVs.dp s qs rs)
end
theorem scal_ok {v u : Va} {x y : V} (h : scal v u = true) (r1 : VR K F β v x) (r2 : VR K F β u y) : L2.scal x y = true ∧ decide (x = y) = eqF v u := by
  unfold scal at h
  split at h
  · cases r1; cases r2; exact ⟨rfl, by simp [eqF]⟩
  · cases r1; cases r2; exact ⟨rfl, by simp [eqF]⟩
  · cases r1; cases r2; exact ⟨rfl, by simp [eqF]⟩
  · cases r1; cases r2; exact ⟨rfl, by simp [eqF]⟩
  · cases h
theorem isNon_ok {v : Va} {x : V} (r : VR K F β v x) : decide (x = .non) = isNon v := by
  cases v with
  | non => cases r; rfl
  | bl b => cases r; rfl
  | int i => cases r; rfl
  | str z => cases r; rfl
  | tup xs => obtain ⟨a, _, rfl, _⟩ := r; rfl
  | lst xs => obtain ⟨a, _, rfl, _⟩ := r; rfl
  | dct xs => obtain ⟨a, _, rfl, _⟩ := r; rfl
  | loc n => obtain ⟨a, rfl, _⟩ := r; rfl
  | scr n => obtain ⟨a, rfl, _⟩ := r; rfl
end
section
variable {X : Cx} {cA : Str → Addr}
theorem cmp_ok {op : Cop} {op' : CmpOp} (hu1 : X.A.units + 65 < cLine) (h : copB op op' = true) : ∃ r, OpR X (compareOp op') r ∧ OpS X cA (wCmp op) r := by
  have hu : X.A.units + 64 < cLine := by omega
  unfold copB at h
  split at h
  · refine ⟨_, op_eq.or (op_eqD hu), fun F β S H v u x y Q s r1 r2 q => ?_⟩
    simp only [wCmp] at q
    rcases q with ⟨q1, q2⟩ | ⟨d, e, q1, q2, q3, q4, q5⟩
    · obtain ⟨z1, z2⟩ := scal_ok q1 r1 r2
      refine .inl ⟨z1, ?_⟩
      rw [z2]
      exact post_here (v := .bl _) s rfl q2
    · exact .inr ⟨d, e, DV.dp s q1 r1, DV.dp s q2 r2, q3, q4, post_here (v := .bl _) s rfl q5⟩
  · refine ⟨_, op_ne.or (op_neD hu), fun F β S H v u x y Q s r1 r2 q => ?_⟩
    simp only [wCmp] at q
    rcases q with ⟨q1, q2⟩ | ⟨d, e, q1, q2, q3, q4, q5⟩
    · obtain ⟨z1, z2⟩ := scal_ok q1 r1 r2
      refine .inl ⟨z1, ?_⟩
      rw [z2]
      exact post_here (v := .bl _) s rfl q2
    · exact .inr ⟨d, e, DV.dp s q1 r1, DV.dp s q2 r2, q3, q4, post_here (v := .bl _) s rfl q5⟩
  · refine ⟨_, op_lt, fun F β S H v u x y Q s r1 r2 q => ?_⟩
    unfold wCmp at q
    split at q <;> first | exact q.elim | skip
    all_goals simp only [reduceCtorEq] at *
    cases r1; cases r2; exact ⟨_, _, rfl, rfl, post_here (v := .bl _) s rfl q⟩
  · refine ⟨_, op_le, fun F β S H v u x y Q s r1 r2 q => ?_⟩
    unfold wCmp at q
    split at q <;> first | exact q.elim | skip
    all_goals simp only [reduceCtorEq] at *
    cases r1; cases r2; exact ⟨_, _, rfl, rfl, post_here (v := .bl _) s rfl q⟩
  · refine ⟨_, op_gt, fun F β S H v u x y Q s r1 r2 q => ?_⟩
    unfold wCmp at q
    split at q <;> first | exact q.elim | skip
    all_goals simp only [reduceCtorEq] at *
    cases r1; cases r2; exact ⟨_, _, rfl, rfl, post_here (v := .bl _) s rfl q⟩
  · refine ⟨_, op_ge, fun F β S H v u x y Q s r1 r2 q => ?_⟩
    unfold wCmp at q
    split at q <;> first | exact q.elim | skip
    all_goals simp only [reduceCtorEq] at *
    cases r1; cases r2; exact ⟨_, _, rfl, rfl, post_here (v := .bl _) s rfl q⟩
  · refine ⟨_, (op_in_sign.or (op_inD hu1)).or op_in_seq, fun F β S H v u x y Q s r1 r2 q => ?_⟩
    unfold wCmp at q
    split at q <;> first | exact q.elim | skip
    all_goals simp only [reduceCtorEq] at *
    · cases r1; cases r2
      exact .inl (.inl ⟨_, _, by rw [← str1 q.1], rfl, post_here (v := .bl _) s rfl q.2⟩)
    · obtain ⟨q1, q2, q3⟩ := q
      obtain ⟨a, ys, rfl, t, qq⟩ := r2
      refine .inr ⟨a, ys, rfl, .inr (SqT.mono s.sub t), flat_ok q1 r1, flats_ok q2 qq, ?_⟩
      rw [inW_ok q1 r1 q2 qq]
      exact post_here (v := .bl _) s rfl q3
    · obtain ⟨d, ds, h1, h2, h3, h4, q⟩ := q
      exact .inl (.inr ⟨d, ds, DV.dp s h1 r1, DV.dp s h2 r2, h3, h4, post_here (v := .bl _) s rfl q⟩)
  · refine ⟨_, op_notIn_sign.or (op_notInD hu1), fun F β S H v u x y Q s r1 r2 q => ?_⟩
    unfold wCmp at q
    split at q <;> first | exact q.elim | skip
    all_goals simp only [reduceCtorEq] at *
    · cases r1; cases r2
      exact .inl ⟨_, _, by rw [← str1 q.1], rfl, post_here (v := .bl _) s rfl q.2⟩
    · obtain ⟨d, ds, h1, h2, h3, h4, q⟩ := q
      exact .inr ⟨d, ds, DV.dp s h1 r1, DV.dp s h2 r2, h3, h4, post_here (v := .bl _) s rfl q⟩
  · cases h
/-- a comparison gives a truth -/
theorem wCmp_bl {op : Cop} {v u : Va} {S : Sto} {P : PV} (h : wCmp op v u S P) : wCmp op v u S fun z S' => (∃ b, z = .bl b) ∧ P z S' := by
  unfold wCmp at h ⊢
  split at h <;> first | exact h.elim | exact ⟨⟨_, rfl⟩, h⟩ | exact ⟨h.1, ⟨_, rfl⟩, h.2⟩ | exact ⟨h.1, h.2.1, ⟨_, rfl⟩, h.2.2⟩ | (obtain ⟨d, ds, h1, h2, h3, h4, q⟩ := h; exact ⟨d, ds, h1, h2, h3, h4, ⟨_, rfl⟩, q⟩) | (rcases h with ⟨h1, h2⟩ | ⟨d, e, h1, h2, h3, h4, h5⟩; exact .inl ⟨h1, ⟨_, rfl⟩, h2⟩; exact .inr ⟨d, e, h1, h2, h3, h4, ⟨_, rfl⟩, h5⟩)
end
end AM
end

section
set_option linter.all false
set_option maxRecDepth 100000
set_option maxHeartbeats 4000000
/-! AM, sixth part: the main theorem on expressions. -/
namespace AM
open PySem L2

theorem plainT_he {e : Expr} (h : plainT e = true) (env : PySem.Env) (whole : Sem Value) : isTrue e env whole = (do let v ← whole; standAt e.pos; holding [v] (truthy v)) := by
  cases e <;> first | rfl | cases h | (rename_i op _ _; cases op <;> first | rfl | cases h)
theorem star_cons {e : Expr} (h : noStar e = true) (es : List Expr) (env : PySem.Env) : starEach (e :: es) env = (false, eval e env) :: starEach es env := by
  cases e <;> first | rfl | cases h
theorem noSet_mark {e : Expr} (h : noSet e = true) (op : CmpOp) : behindInMarks op e = false := by
  cases e <;> first | rfl | cases h
theorem noSlice_ix {e : Expr} (h : noSlice e = true) : PlainIx e := by
  intro o i
  cases e <;> first | rfl | cases h
theorem noComp_sw {e : Expr} (h : noComp e = true) (t : Option Expr) (l : Nat) (env : PySem.Env) : swapsWith e t l env = pure false := by
  cases e <;> first | rfl | cases h
theorem ba {a b : Bool} (h : (a && b) = true) : a = true ∧ b = true := Bool.and_eq_true_iff.mp h

section
variable {X : Cx} {cA : Str → Addr} {F : Hp} {β : List Addr} {S : Sto} {H : Hp}
theorem tru_ok2 {v : Va} {x : V} {b : Bool} (s : Sim X.K cA F β S H) (r : VR X.K F β v x) (h : tru S v = some b) : TruV X.K x H b := by
  cases v with
  | non => cases r; cases h; rfl
  | bl c => cases r; cases h; rfl
  | int i => cases r; cases h; rfl
  | str z => cases h
  | tup xs =>
    obtain ⟨a, ys, rfl, t, q⟩ := r
    cases h
    refine .inr (.inl ⟨ys, SqT.mono s.sub t, ?_⟩)
    have := q.len
    cases xs <;> cases ys <;> simp_all
  | lst xs =>
    obtain ⟨a, ys, rfl, t, q⟩ := r
    cases h
    refine .inl ⟨ys, SqL.of (s.sub _ _ t), ?_⟩
    have := q.len
    cases xs <;> cases ys <;> simp_all
  | dct xs => cases h
  | scr xs => cases h
  | loc n =>
    obtain ⟨a, rfl, t⟩ := r
    simp only [tru] at h
    split at h
    · rename_i xs e
      cases h
      obtain ⟨b, e1, _, ys, e2, q⟩ := s.at e
      rw [t] at e1
      cases (Option.some.inj e1)
      refine .inl ⟨ys, SqL.of e2, ?_⟩
      have := q.len
      cases xs <;> cases ys <;> simp_all
    · cases h
theorem len_ok {v : Va} {x : V} {Q : VK} (s : Sim X.K cA F β S H) (r : VR X.K F β v x) (h : wLen v S (post X.K cA F β Q)) : ∃ n : Nat, LenV X.K x H n ∧ Q (.int n) H := by
  cases v with
  | non => exact h.elim
  | bl c => exact h.elim
  | int i => exact h.elim
  | str z => cases r; exact ⟨z.length, ⟨h.1, rfl⟩, post_here (v := .int _) s rfl h.2⟩
  | tup xs =>
    obtain ⟨a, ys, rfl, t, q⟩ := r
    refine ⟨xs.length, .inr ⟨ys, SqT.mono s.sub t, q.len⟩, post_here (v := .int _) s rfl h⟩
  | lst xs =>
    obtain ⟨a, ys, rfl, t, q⟩ := r
    refine ⟨xs.length, .inl ⟨ys, SqL.of (s.sub _ _ t), q.len⟩, post_here (v := .int _) s rfl h⟩
  | dct xs => exact h.elim
  | scr ns =>
    obtain ⟨a, rfl, t⟩ := r
    exact ⟨ns.length, .inl ⟨_, SqL.mono s.sub t, by simp⟩, post_here (v := .int _) s rfl h⟩
  | loc n =>
    obtain ⟨a, rfl, t⟩ := r
    obtain ⟨xs, e, h⟩ := h
    obtain ⟨b, e1, _, ys, e2, q⟩ := s.at e
    rw [t] at e1
    cases (Option.some.inj e1)
    exact ⟨xs.length, .inl ⟨ys, SqL.of e2, q.len⟩, post_here (v := .int _) s rfl h⟩
theorem abs_ok {v : Va} {x : V} {Q : VK} (s : Sim X.K cA F β S H) (r : VR X.K F β v x) (h : wAbs v S (post X.K cA F β Q)) : ∃ i : Int, x = .int i ∧ Q (.int (if i < 0 then -i else i)) H := by
  cases v <;> first | exact h.elim | skip
  cases r
  exact ⟨_, rfl, post_here (v := .int _) s rfl h⟩
theorem neg_ok {v : Va} {x : V} {Q : VK} (s : Sim X.K cA F β S H) (r : VR X.K F β v x) (h : wNeg v S (post X.K cA F β Q)) : ∃ i : Int, x = .int i ∧ Q (.int (-i)) H := by
  cases v <;> first | exact h.elim | skip
  cases r
  exact ⟨_, rfl, post_here (v := .int _) s rfl h⟩
theorem ty_ok {v : Va} {x : V} {t : Ty} {b : Bool} (s : Sim X.K cA F β S H) (r : VR X.K F β v x) (h : tyIs S v t = some b) : ∃ tv, TyX X.K H x tv ∧ PySem.W.kitOne X.K tv (.type (tyS t)) = some b := by
  cases v with
  | non => cases r; refine ⟨_, .base .non, ?_⟩; cases t <;> cases h <;> exact kit_ty (by decide +kernel)
  | bl c => cases r; refine ⟨_, .base (.bl c), ?_⟩; cases t <;> cases h <;> exact kit_ty (by decide +kernel)
  | int i => cases r; refine ⟨_, .base (.int i), ?_⟩; cases t <;> cases h <;> exact kit_ty (by decide +kernel)
  | str z => cases r; refine ⟨_, .base (.str z), ?_⟩; cases t <;> cases h <;> exact kit_ty (by decide +kernel)
  | tup xs =>
    obtain ⟨a, ys, rfl, tt, q⟩ := r
    have key : TyX X.K H (.ref a) (.type "tuple") := by
      rcases SqT.mono s.sub tt with (e | ⟨o, e⟩) | ⟨o, its, n, e, e2, _⟩
      · exact .base (.tup e)
      · exact .fTuple e
      · exact .kTuple e e2
    refine ⟨_, key, ?_⟩; cases t <;> cases h <;> exact kit_ty (by decide +kernel)
  | lst xs =>
    obtain ⟨a, ys, rfl, tt, q⟩ := r
    refine ⟨_, .base (.lst (s.sub _ _ tt)), ?_⟩; cases t <;> cases h <;> exact kit_ty (by decide +kernel)
  | scr ns =>
    obtain ⟨a, rfl, tt⟩ := r
    have key : TyX X.K H (.ref a) (.type "list") := by
      rcases SqL.mono s.sub tt with (e | ⟨o, e⟩) | ⟨o, its, n, e, e2, _⟩
      · exact .base (.lst e)
      · exact .base (.frz e)
      · exact .kList e e2
    refine ⟨_, key, ?_⟩; cases t <;> cases h <;> exact kit_ty (by decide +kernel)
  | dct xs =>
    obtain ⟨a, ys, rfl, tt, q⟩ := r
    refine ⟨_, .base (.dK (s.sub _ _ tt)), ?_⟩; cases t <;> cases h <;> exact kit_ty (by decide +kernel)
  | loc n =>
    obtain ⟨a, rfl, tt⟩ := r
    simp only [tyIs] at h
    split at h
    · rename_i xs e
      obtain ⟨b, e1, _, ys, e2, q⟩ := s.at e
      rw [tt] at e1
      cases (Option.some.inj e1)
      refine ⟨_, .base (.lst e2), ?_⟩; cases t <;> cases h <;> exact kit_ty (by decide +kernel)
    · rename_i xs e
      obtain ⟨b, e1, _, ys, e2, q⟩ := s.at e
      rw [tt] at e1
      cases (Option.some.inj e1)
      refine ⟨_, .base (.dK e2), ?_⟩; cases t <;> cases h <;> exact kit_ty (by decide +kernel)
    · cases h
theorem at_len {α γ : Type} {xs : List α} {ys : List γ} (hl : xs.length = ys.length) {i : Int} {v : α} (h : atI xs i = some v) : ∃ j : Nat, xs[j]? = some v ∧ ∀ w : γ, ys[j]? = some w → atI ys i = some w := by
  unfold atI at h ⊢
  rw [← hl]
  cases e : ixN xs.length i with
  | none => rw [e] at h; cases h
  | some j => rw [e] at h; exact ⟨j, h, fun w q => q⟩
theorem sub_ok : OpS X cA wSub (fun x y H Q => (rIxL X.K x y H Q ∨ rIxT X.K x y H Q) ∨ rIxS x y H Q) := fun F β S H v u x y Q s r1 r2 q => by
  unfold wSub at q
  split at q <;> first | exact q.elim | skip
  · obtain ⟨a, ys, rfl, t, qq⟩ := r1
    cases r2
    obtain ⟨w, h1, h2⟩ := q
    obtain ⟨j, hj, hk⟩ := at_len qq.len h1
    obtain ⟨z, hz, rz⟩ := qq.get hj
    exact .inl (.inr ⟨a, ys, _, z, rfl, rfl, SqT.mono s.sub t, hk z hz, post_here s rz h2⟩)
  · obtain ⟨a, ys, rfl, t, qq⟩ := r1
    cases r2
    obtain ⟨w, h1, h2⟩ := q
    obtain ⟨j, hj, hk⟩ := at_len qq.len h1
    obtain ⟨z, hz, rz⟩ := qq.get hj
    exact .inl (.inl ⟨a, ys, _, z, rfl, rfl, SqL.of (s.sub _ _ t), hk z hz, post_here s rz h2⟩)
  · cases r2
    obtain ⟨xs, h0, w, h1, h2⟩ := q
    obtain ⟨a, ys, rfl, e2, qq⟩ := LV.ok s (.inr ⟨_, rfl, h0⟩) r1
    obtain ⟨j, hj, hk⟩ := at_len qq.len h1
    obtain ⟨z, hz, rz⟩ := qq.get hj
    exact .inl (.inl ⟨a, ys, _, z, rfl, rfl, SqL.of e2, hk z hz, post_here s rz h2⟩)
  · obtain ⟨a, rfl, t⟩ := r1
    cases r2
    obtain ⟨n, h1, h2⟩ := q
    obtain ⟨j, hj, hk⟩ := at_len (γ := V) (ys := List.map V.int _) (by rw [List.length_map]) h1
    exact .inl (.inl ⟨a, _, _, .int n, rfl, rfl, SqL.mono s.sub t, hk (.int n) (by rw [List.getElem?_map, hj]; rfl), post_here (v := .int n) s rfl h2⟩)
  · cases r1; cases r2
    obtain ⟨c, h0, h1, h2⟩ := q
    exact .inr ⟨_, _, c, rfl, rfl, h0, h1, post_here (v := .str _) s rfl h2⟩
theorem VRs.drop {K : PySem.W.Frag} {F : Hp} {β : List Addr} : ∀ {xs : List Va} {ys : List V} (n : Nat), VRs K F β xs ys → VRs K F β (xs.drop n) (ys.drop n)
  | xs, ys, 0, h => h
  | [], _, n + 1, h => by cases (show _ = [] from h); rfl
  | x :: xs, _, n + 1, ⟨y, r, e, _, q⟩ => by subst e; exact VRs.drop n q
theorem VRs.take {K : PySem.W.Frag} {F : Hp} {β : List Addr} : ∀ {xs : List Va} {ys : List V} (n : Nat), VRs K F β xs ys → VRs K F β (xs.take n) (ys.take n)
  | xs, ys, 0, h => rfl
  | [], _, n + 1, h => by cases (show _ = [] from h); rfl
  | x :: xs, _, n + 1, ⟨y, r, e, q, qs⟩ => by subst e; exact ⟨y, _, rfl, q, VRs.take n qs⟩
theorem VRs.dropLast {K : PySem.W.Frag} {F : Hp} {β : List Addr} {xs : List Va} {ys : List V} (h : VRs K F β xs ys) : VRs K F β xs.dropLast ys.dropLast := by
  rw [List.dropLast_eq_take, List.dropLast_eq_take, h.len]; exact h.take _
theorem VRs.set {K : PySem.W.Frag} {F : Hp} {β : List Addr} : ∀ {xs : List Va} {ys : List V} (n : Nat) {v : Va} {x : V}, VRs K F β xs ys → VR K F β v x → VRs K F β (xs.set n v) (ys.set n x)
  | [], _, n, _, _, h, _ => by cases (show _ = [] from h); rfl
  | x :: xs, _, 0, _, _, ⟨y, r, e, q, qs⟩, h => by subst e; exact ⟨_, _, rfl, h, qs⟩
  | x :: xs, _, n + 1, _, _, ⟨y, r, e, q, qs⟩, h => by subst e; exact ⟨_, _, rfl, q, VRs.set n qs h⟩
theorem VRs.reverse {K : PySem.W.Frag} {F : Hp} {β : List Addr} : ∀ {xs : List Va} {ys : List V}, VRs K F β xs ys → VRs K F β xs.reverse ys.reverse
  | [], _, h => by cases (show _ = [] from h); rfl
  | x :: xs, _, ⟨y, r, e, q, qs⟩ => by
    subst e
    rw [List.reverse_cons, List.reverse_cons]
    exact (VRs.reverse qs).append ⟨y, [], rfl, q, rfl⟩
theorem cut_ok2 {F : Hp} {β : List Addr} {xs : List Va} {ys : List V} (h : VRs X.K F β xs ys) (lo hi : Option Int) : VRs X.K F β (cutA xs lo hi) (cutV ys lo hi) := by
  unfold cutA cutV
  rw [h.len]
  exact (h.drop _).take _
theorem scr_cut {F : Hp} {β : List Addr} (ns : List Int) (lo hi : Option Int) : VRs X.K F β ((cutA ns lo hi).map Va.int) (cutV (ns.map V.int) lo hi) := by
  have := cut_ok2 (X := X) (F := F) (β := β) (VRs.ints.mpr (rfl : List.map V.int ns = _)) lo hi
  unfold cutA at this ⊢
  rw [List.map_take, List.map_drop]
  rw [List.length_map] at this
  exact this
theorem VRs.one {K : PySem.W.Frag} {F : Hp} {β : List Addr} {v : Va} {x : V} (h : VR K F β v x) : VRs K F β [v] [x] := ⟨x, [], rfl, h, rfl⟩
theorem slice_ok {F : Hp} {β : List Addr} {S : Sto} {H : Hp} {v : Va} {x : V} {lo hi : Option Int} {Q : VK} (s : Sim X.K cA F β S H) (r : VR X.K F β v x) (q : wSlice v lo hi S (post X.K cA F β Q)) :
    (rSlL X.K x lo hi H Q ∨ rSlT X.K x lo hi H Q) ∨ rSlS x lo hi H Q := by
  unfold wSlice at q
  split at q <;> first | exact q.elim | skip
  · obtain ⟨a, ys, rfl, t, qq⟩ := r
    exact .inl (.inl ⟨a, ys, rfl, SqL.of (s.sub _ _ t), post_new s (cut_ok2 qq _ _) q⟩)
  · obtain ⟨xs, h0, q⟩ := q
    obtain ⟨a, ys, rfl, e2, qq⟩ := LV.ok s (.inr ⟨_, rfl, h0⟩) r
    exact .inl (.inl ⟨a, ys, rfl, SqL.of e2, post_new s (cut_ok2 qq _ _) q⟩)
  · obtain ⟨a, rfl, t⟩ := r
    exact .inl (.inl ⟨a, _, rfl, SqL.mono s.sub t, post_new s (scr_cut _ _ _) q⟩)
  · obtain ⟨a, ys, rfl, t, qq⟩ := r
    obtain ⟨h1, q⟩ := q
    refine .inl (.inr ⟨a, ys, rfl, SqT.mono s.sub t, ?_, post_tup s (cut_ok2 qq _ _) q⟩)
    rw [← qq.len]; exact h1
  · cases r
    exact .inr ⟨_, rfl, q.1, post_here (v := .str _) s rfl q.2⟩
end
/-! ### built-in functions and methods -/
section
variable {X : Cx} {cA : Str → Addr}
def bfV : Bf → Value
  | .list => .type "list" | .tuple => .type "tuple" | .sum => .builtin "sum" | .max1 => .builtin "max" | .min1 => .builtin "min" | .max2 => .builtin "max" | .min2 => .builtin "min" | .sorted => .builtin "sorted"
  | .ord => .builtin "ord" | .str => .type "str" | .int => .type "int" | .all => .builtin "all" | .any => .builtin "any"
def BltS (X : Cx) (cA : Str → Addr) (f : Bf) (r : List V → Hp → VK → Prop) : Prop := ∀ (F : Hp) (β : List Addr) (S : Sto) (H : Hp) (vs : List Va) (xs : List V) (Q : VK), Sim X.K cA F β S H → VRs X.K F β vs xs → wBlt f vs S (post X.K cA F β Q) → r xs H Q
theorem one_of {K : PySem.W.Frag} {F : Hp} {β : List Addr} {v : Va} {xs : List V} (h : VRs K F β [v] xs) : ∃ x, xs = [x] ∧ VR K F β v x := by
  obtain ⟨x, r, e, q, e2⟩ := h
  cases (show r = [] from e2)
  exact ⟨x, e, q⟩
theorem two_of {K : PySem.W.Frag} {F : Hp} {β : List Addr} {v u : Va} {xs : List V} (h : VRs K F β [v, u] xs) : ∃ x y, xs = [x, y] ∧ VR K F β v x ∧ VR K F β u y := by
  obtain ⟨x, r, e, q, h⟩ := h
  obtain ⟨y, e2, q2⟩ := one_of h
  exact ⟨x, y, by rw [e, e2], q, q2⟩
theorem LV.ints {K : PySem.W.Frag} {F : Hp} {β : List Addr} {S : Sto} {H : Hp} {v : Va} {x : V} {ns : List Int} (s : Sim K cA F β S H) (h : LV S v (ns.map Va.int)) (r : VR K F β v x) : ∃ a, x = .ref a ∧ H a = some (.lst (ns.map V.int)) := by
  obtain ⟨a, ys, e, h1, h2⟩ := h.ok s r
  rw [VRs.ints.mp h2] at h1
  exact ⟨a, e, h1⟩
theorem LV.bls {K : PySem.W.Frag} {F : Hp} {β : List Addr} {S : Sto} {H : Hp} {v : Va} {x : V} {ns : List Bool} (s : Sim K cA F β S H) (h : LV S v (ns.map Va.bl)) (r : VR K F β v x) : ∃ a, x = .ref a ∧ H a = some (.lst (ns.map V.bl)) := by
  obtain ⟨a, ys, e, h1, h2⟩ := h.ok s r
  rw [VRs.bls.mp h2] at h1
  exact ⟨a, e, h1⟩
theorem blt_ok (hc : X.calm = true) (f : Bf) : ∃ r, CallR X (bfV f) r ∧ BltS X cA f r := by
  cases f
  case list =>
    refine ⟨_, call_list_of, fun F β S H vs xs Q s rs q => ?_⟩
    unfold wBlt at q
    split at q <;> first | exact q.elim | skip
    all_goals simp only [reduceCtorEq] at *
    · obtain ⟨x, rfl, a, ys, rfl, t, qq⟩ := one_of rs
      exact ⟨a, ys, rfl, .inl (SqL.of (s.sub _ _ t)), post_new s qq q⟩
    · obtain ⟨x, rfl, a, ys, rfl, t, qq⟩ := one_of rs
      exact ⟨a, ys, rfl, .inr (SqT.mono s.sub t), post_new s qq q⟩
    · obtain ⟨x, rfl, a, rfl, t⟩ := one_of rs
      exact ⟨a, _, rfl, .inl (SqL.mono s.sub t), post_new s (VRs.ints.mpr rfl) q⟩
    · obtain ⟨x, rfl, r⟩ := one_of rs
      obtain ⟨zs, h0, q⟩ := q
      obtain ⟨a, ys, rfl, e2, qq⟩ := LV.ok s (.inr ⟨_, rfl, h0⟩) r
      exact ⟨a, ys, rfl, .inl (SqL.of e2), post_new s qq q⟩
  case tuple =>
    refine ⟨_, call_tuple_of, fun F β S H vs xs Q s rs q => ?_⟩
    unfold wBlt at q
    split at q <;> first | exact q.elim | skip
    all_goals simp only [reduceCtorEq] at *
    · obtain ⟨x, rfl, a, ys, rfl, t, qq⟩ := one_of rs
      exact ⟨a, ys, rfl, .inl ⟨SqL.of (s.sub _ _ t), post_tup s qq q⟩⟩
    · obtain ⟨x, rfl, a, ys, rfl, t, qq⟩ := one_of rs
      exact ⟨a, ys, rfl, .inr ⟨SqT.mono s.sub t, q F β H _ (Ext.refl _ _) s ⟨a, ys, rfl, t, qq⟩⟩⟩
    · obtain ⟨x, rfl, r⟩ := one_of rs
      obtain ⟨zs, h0, q⟩ := q
      obtain ⟨a, ys, rfl, e2, qq⟩ := LV.ok s (.inr ⟨_, rfl, h0⟩) r
      exact ⟨a, ys, rfl, .inl ⟨SqL.of e2, post_tup s qq q⟩⟩
  case sum =>
    refine ⟨_, cr_sum hc, fun F β S H vs xs Q s rs q => ?_⟩
    unfold wBlt at q
    split at q <;> first | exact q.elim | skip
    all_goals simp only [reduceCtorEq] at *
    obtain ⟨x, rfl, r⟩ := one_of rs
    obtain ⟨ns, h1, q⟩ := q
    obtain ⟨a, rfl, e⟩ := h1.ints s r
    exact ⟨a, ns, rfl, SqL.of e, post_here (v := .int _) s rfl q⟩
  case max1 =>
    refine ⟨_, cr_max hc, fun F β S H vs xs Q s rs q => ?_⟩
    unfold wBlt at q
    split at q <;> first | exact q.elim | skip
    all_goals simp only [reduceCtorEq] at *
    obtain ⟨x, rfl, r⟩ := one_of rs
    obtain ⟨ns, h1, h2, q⟩ := q
    obtain ⟨a, rfl, e⟩ := h1.ints s r
    exact ⟨a, ns, rfl, SqL.of e, h2, fun m h3 h4 => post_here (v := .int _) s rfl (q m h3 h4)⟩
  case min1 =>
    refine ⟨_, cr_min hc, fun F β S H vs xs Q s rs q => ?_⟩
    unfold wBlt at q
    split at q <;> first | exact q.elim | skip
    all_goals simp only [reduceCtorEq] at *
    obtain ⟨x, rfl, r⟩ := one_of rs
    obtain ⟨ns, h1, h2, q⟩ := q
    obtain ⟨a, rfl, e⟩ := h1.ints s r
    exact ⟨a, ns, rfl, SqL.of e, h2, fun m h3 h4 => post_here (v := .int _) s rfl (q m h3 h4)⟩
  case max2 =>
    refine ⟨_, call_max2 hc, fun F β S H vs xs Q s rs q => ?_⟩
    unfold wBlt at q
    split at q <;> first | exact q.elim | skip
    all_goals simp only [reduceCtorEq] at *
    obtain ⟨x, y, rfl, r1, r2⟩ := two_of rs
    cases r1; cases r2
    exact ⟨_, _, rfl, post_here (v := .int _) s rfl q⟩
  case min2 =>
    refine ⟨_, call_min2 hc, fun F β S H vs xs Q s rs q => ?_⟩
    unfold wBlt at q
    split at q <;> first | exact q.elim | skip
    all_goals simp only [reduceCtorEq] at *
    obtain ⟨x, y, rfl, r1, r2⟩ := two_of rs
    cases r1; cases r2
    exact ⟨_, _, rfl, post_here (v := .int _) s rfl q⟩
  case sorted =>
    refine ⟨_, cr_sortedI, fun F β S H vs xs Q s rs q => ?_⟩
    unfold wBlt at q
    split at q <;> first | exact q.elim | skip
    all_goals simp only [reduceCtorEq] at *
    obtain ⟨x, rfl, r⟩ := one_of rs
    obtain ⟨ns, h1, q⟩ := q
    obtain ⟨a, rfl, e⟩ := h1.ints s r
    exact ⟨a, ns, rfl, SqL.of e, fun ns' p h3 h4 hp => post_new s (VRs.ints.mpr rfl) (q ns' h3 h4) p hp⟩
  case ord =>
    refine ⟨_, call_ord, fun F β S H vs xs Q s rs q => ?_⟩
    unfold wBlt at q
    split at q <;> first | exact q.elim | skip
    all_goals simp only [reduceCtorEq] at *
    obtain ⟨x, rfl, r⟩ := one_of rs
    cases r
    exact ⟨_, rfl, q.1, post_here (v := .int _) s rfl q.2⟩
  case str =>
    refine ⟨_, call_str_int, fun F β S H vs xs Q s rs q => ?_⟩
    unfold wBlt at q
    split at q <;> first | exact q.elim | skip
    all_goals simp only [reduceCtorEq] at *
    obtain ⟨x, rfl, r⟩ := one_of rs
    cases r
    exact ⟨_, rfl, q.1, post_here (v := .str _) s rfl q.2⟩
  case int =>
    refine ⟨_, call_int_str, fun F β S H vs xs Q s rs q => ?_⟩
    unfold wBlt at q
    split at q <;> first | exact q.elim | skip
    all_goals simp only [reduceCtorEq] at *
    obtain ⟨x, rfl, r⟩ := one_of rs
    cases r
    obtain ⟨n, h1, h2, q⟩ := q
    exact ⟨_, n, rfl, h1, h2, post_here (v := .int _) s rfl q⟩
  case all =>
    refine ⟨_, cr_all hc, fun F β S H vs xs Q s rs q => ?_⟩
    unfold wBlt at q
    split at q <;> first | exact q.elim | skip
    all_goals simp only [reduceCtorEq] at *
    obtain ⟨x, rfl, r⟩ := one_of rs
    obtain ⟨bs, h1, q⟩ := q
    obtain ⟨a, rfl, e⟩ := h1.bls s r
    exact ⟨a, bs, rfl, SqL.of e, post_here (v := .bl _) s rfl q⟩
  case any =>
    refine ⟨_, cr_any hc, fun F β S H vs xs Q s rs q => ?_⟩
    unfold wBlt at q
    split at q <;> first | exact q.elim | skip
    all_goals simp only [reduceCtorEq] at *
    obtain ⟨x, rfl, r⟩ := one_of rs
    obtain ⟨bs, h1, q⟩ := q
    obtain ⟨a, rfl, e⟩ := h1.bls s r
    exact ⟨a, bs, rfl, SqL.of e, post_here (v := .bl _) s rfl q⟩
theorem blt_call {f : Bf} {r : List V → Hp → VK → Prop} {e : Expr} {es : List Expr} {t : TA} {p pos : Pos} (hr : CallR X (bfV f) r) (hg : Gl X (bfN f)) (hm : X.mg (bfN f) = none) (ha : PA X (e :: es) t)
    (he : starEach (e :: es) X.env = (false, eval e X.env) :: starEach es X.env) (hpl : (backTo pos (starEach es X.env)).any (·.1) = false) : PE X (.Call (.Name (bfN f) p) (e :: es) [] pos) (tCB r t) := by
  cases f
  case list => exact pe_callTy hr hg hm (by decide +kernel) ha (he := he) (hpl := hpl)
  case tuple => exact pe_callTy hr hg hm (by decide +kernel) ha (he := he) (hpl := hpl)
  case sum => exact pe_callB hr hg hm (by decide +kernel) ha (he := he) (hpl := hpl)
  case max1 => exact pe_callB hr hg hm (by decide +kernel) ha (he := he) (hpl := hpl)
  case min1 => exact pe_callB hr hg hm (by decide +kernel) ha (he := he) (hpl := hpl)
  case max2 => exact pe_callB hr hg hm (by decide +kernel) ha (he := he) (hpl := hpl)
  case min2 => exact pe_callB hr hg hm (by decide +kernel) ha (he := he) (hpl := hpl)
  case sorted => exact pe_callB hr hg hm (by decide +kernel) ha (he := he) (hpl := hpl)
  case ord => exact pe_callB hr hg hm (by decide +kernel) ha (he := he) (hpl := hpl)
  case str => exact pe_callTy hr hg hm (by decide +kernel) ha (he := he) (hpl := hpl)
  case int => exact pe_callTy hr hg hm (by decide +kernel) ha (he := he) (hpl := hpl)
  case all => exact pe_callB hr hg hm (by decide +kernel) ha (he := he) (hpl := hpl)
  case any => exact pe_callB hr hg hm (by decide +kernel) ha (he := he) (hpl := hpl)

def mfT : Mf → String
  | .join => "str" | _ => "list"
def mfI : Mf → String
  | .append => "list.append" | .pop => "list.pop" | .extend => "list.extend" | .insert => "list.insert" | .join => "str.join" | .index => "list.index" | .clear => "list.clear"
theorem mOk_ty {F : Hp} {β : List Addr} {S : Sto} {H : Hp} {m : Mf} {v : Va} {x : V} (s : Sim X.K cA F β S H) (r : VR X.K F β v x) (h : mOk S m v) : tyV X.K (mfT m) x H := by
  have key : (∃ xs, LV S v xs) → tyV X.K "list" x H := fun ⟨xs, h⟩ => by
    obtain ⟨a, ys, rfl, e, _⟩ := h.ok s r
    exact .inl ⟨rfl, ys, SqL.of e⟩
  cases m <;> first | exact key h | skip
  obtain ⟨a, rfl⟩ := h
  cases r
  rfl
def MthS (X : Cx) (cA : Str → Addr) (m : Mf) (r : V → List V → Hp → VK → Prop) : Prop := ∀ (F : Hp) (β : List Addr) (S : Sto) (H : Hp) (v : Va) (x : V) (vs : List Va) (xs : List V) (Q : VK), Sim X.K cA F β S H → VR X.K F β v x → VRs X.K F β vs xs → wMth m v vs S (post X.K cA F β Q) → r x xs H Q
/-- a list of the store written anew -/
theorem put_lst {K : PySem.W.Frag} {F : Hp} {β : List Addr} {S : Sto} {H : Hp} {k : Nat} {a : Addr} {o : Ob} {xs : List Va} {ys : List V} (s : Sim K cA F β S H) (hk : S[k]? = some o) (ha : β[k]? = some a) (r : VRs K F β xs ys) : Sim K cA F β (S.set k (.lst xs)) (upd H a (.lst ys)) := by
  obtain ⟨b, e1, fa, _⟩ := s.at hk
  rw [ha] at e1
  cases e1
  exact s.put (lt_of_get hk) ha fa ⟨ys, upd_same, r⟩
theorem loc_ok {K : PySem.W.Frag} {F : Hp} {β : List Addr} {S : Sto} {H : Hp} {k : Nat} {x : V} {xs : List Va} (s : Sim K cA F β S H) (hk : S[k]? = some (.lst xs)) (r : VR K F β (.loc k) x) : ∃ a ys, x = .ref a ∧ β[k]? = some a ∧ H a = some (.lst ys) ∧ VRs K F β xs ys := by
  obtain ⟨a, rfl, t⟩ := r
  obtain ⟨b, e1, _, ys, e2, q⟩ := s.at hk
  rw [t] at e1
  cases (Option.some.inj e1)
  exact ⟨a, ys, rfl, t, e2, q⟩
theorem mth_ok (hu1 : X.A.units + 65 < cLine) (m : Mf) : ∃ r, MtR X (mfI m) r ∧ MthS X cA m r := by
  cases m
  case append =>
    refine ⟨_, mt_append, fun F β S H v x vs xs Q s r rs q => ?_⟩
    unfold wMth at q
    split at q <;> first | exact q.elim | skip
    all_goals simp only [reduceCtorEq] at *
    obtain ⟨zs, h0, h1, q⟩ := q
    obtain ⟨a, ys, rfl, ha, e2, qq⟩ := loc_ok s h0 r
    obtain ⟨y, rfl, ry⟩ := one_of rs
    refine ⟨a, ys, y, rfl, rfl, e2, by rw [← qq.len]; exact Nat.lt_trans h1 (by decide), post_here (v := .non) (put_lst s h0 ha ?_) rfl q⟩
    exact VRs.append qq (VRs.one ry)
  case pop =>
    refine ⟨_, mt_pop, fun F β S H v x vs xs Q s r rs q => ?_⟩
    unfold wMth at q
    split at q <;> first | exact q.elim | skip
    all_goals simp only [reduceCtorEq] at *
    obtain ⟨zs, h0, w, h1, q⟩ := q
    obtain ⟨a, ys, rfl, ha, e2, qq⟩ := loc_ok s h0 r
    obtain ⟨z, hz, rz⟩ := qq.get h1
    cases (show xs = [] from rs)
    refine ⟨a, ys, z, rfl, rfl, e2, by rw [← qq.len]; exact hz, post_here (put_lst s h0 ha qq.dropLast) rz q⟩
  case extend =>
    refine ⟨_, mt_extend, fun F β S H v x vs xs Q s r rs q => ?_⟩
    unfold wMth at q
    split at q <;> first | exact q.elim | skip
    all_goals simp only [reduceCtorEq] at *
    obtain ⟨zs, h0, ws, hz, h1, q⟩ := q
    obtain ⟨a, ys, rfl, ha, e2, qq⟩ := loc_ok s h0 r
    obtain ⟨y, rfl, ry⟩ := one_of rs
    obtain ⟨b, us, rfl, e3, qu⟩ := hz.ok s ry
    exact ⟨a, b, ys, us, rfl, rfl, e2, e3, by rw [← qq.len, ← qu.len]; exact Nat.le_trans h1 (by decide), post_here (v := .non) (put_lst s h0 ha (qq.append qu)) rfl q⟩
  case insert =>
    refine ⟨_, mt_insert, fun F β S H v x vs xs Q s r rs q => ?_⟩
    unfold wMth at q
    split at q <;> first | exact q.elim | skip
    all_goals simp only [reduceCtorEq] at *
    obtain ⟨zs, h0, h1, h2, h3, q⟩ := q
    obtain ⟨a, ys, rfl, ha, e2, qq⟩ := loc_ok s h0 r
    obtain ⟨i, y, rfl, ri, ry⟩ := two_of rs
    cases ri
    refine ⟨a, ys, _, y, rfl, rfl, e2, by rw [← qq.len]; exact Nat.lt_trans h1 (by decide), h2, h3, post_here (v := .non) (put_lst s h0 ha ?_) rfl q⟩
    exact VRs.append (VRs.append (qq.take _) (VRs.one ry)) (qq.drop _)
  case join =>
    refine ⟨_, mt_join, fun F β S H v x vs xs Q s r rs q => ?_⟩
    unfold wMth at q
    split at q <;> first | exact q.elim | skip
    all_goals simp only [reduceCtorEq] at *
    obtain ⟨ws, h0, h1, q⟩ := q
    cases r
    obtain ⟨y, rfl, ry⟩ := one_of rs
    rcases h0 with rfl | h0
    · obtain ⟨a, ys, rfl, t, qq⟩ := ry
      rw [VRs.strs.mp qq] at t
      exact ⟨_, a, ws, rfl, rfl, .inr (SqT.mono s.sub t), h1, post_here (v := .str _) s rfl q⟩
    · obtain ⟨a, ys, rfl, t, qq⟩ := h0.ok s ry
      rw [VRs.strs.mp qq] at t
      exact ⟨_, a, ws, rfl, rfl, .inl (SqL.of t), h1, post_here (v := .str _) s rfl q⟩
  case index =>
    refine ⟨_, mt_indexD hu1, fun F β S H v x vs xs Q s r rs q => ?_⟩
    unfold wMth at q
    split at q <;> first | exact q.elim | skip
    all_goals simp only [reduceCtorEq] at *
    obtain ⟨d, ds, j, z, h0, h1, h2, h3, h4, h5, h6, q⟩ := q
    obtain ⟨y, rfl, ry⟩ := one_of rs
    have hd := DV.dp s h0 r
    obtain ⟨a, rfl⟩ : ∃ a, x = .ref a := by
      cases hd; exact ⟨_, rfl⟩
    exact ⟨a, y, d, ds, j, z, rfl, rfl, hd, DV.dp s h1 ry, h2, h3, h4, h5, h6, post_here (v := .int _) s rfl q⟩
  case clear =>
    refine ⟨_, mt_clear, fun F β S H v x vs xs Q s r rs q => ?_⟩
    unfold wMth at q
    split at q <;> first | exact q.elim | skip
    all_goals simp only [reduceCtorEq] at *
    obtain ⟨zs, h0, q⟩ := q
    obtain ⟨a, ys, rfl, ha, e2, qq⟩ := loc_ok s h0 r
    cases (show xs = [] from rs)
    exact ⟨a, ys, rfl, rfl, e2, post_here (v := .non) (put_lst s h0 ha (show VRs _ _ _ [] [] from rfl)) rfl q⟩
theorem few_ok {es : List Expr} {pos : Pos} {env : PySem.Env} (h1 : (backTo pos (starEach es env)).any (·.1) = false) (h2 : es.length < 28) : ((backTo pos (starEach es env)).all (fun x => !x.1) && (backToKw pos (keywordEach [] env)).all (fun x => x.1.isSome)
      && decide (es.length + ([] : List Keyword).length + (if ([] : List Keyword).isEmpty then 0 else 1) < 30)) = true := by
  have e1 : (backTo pos (starEach es env)).all (fun x => !x.1) = true := by
    rw [List.all_eq_true]
    intro x hx
    rw [List.any_eq_false] at h1
    have := h1 x hx
    simpa using this
  rw [e1]
  have e2 : (backToKw pos (keywordEach [] env)).all (fun x => x.1.isSome) = true := rfl
  rw [e2]
  simp
  omega
theorem plainB_ok {o : Expr} (h : plainB o = true) (nm : Str) (env : PySem.Env) (w : Sem Value) : attributeBase o nm env w = w := by
  cases o <;> first | rfl | cases h | skip
  rename_i f as ks p
  cases as <;> first | cases h | skip
  cases f <;> rfl
/-- a method of a built-in thing, of no arguments -/
theorem mth_call0 {m : Mf} {r : V → List V → Hp → VK → Prop} {o : Expr} {to : TE} {apos pos : Pos} (hr : MtR X (mfI m) r) (ho : PE X o to) (hb : plainB o = true) (hl : (apos.endLine == pos.line) = true) (hn : mfA m = 0) :
    PE X (.Call (.Attribute o (mfN m) apos) [] [] pos) (tBM0 X.K (mfT m) r to) := by
  have hbase := plainB_ok hb (mfN m) X.env (eval o X.env)
  cases m <;> first | cases hn | skip
  · exact pe_bm0 PySem.F.plainAttrs_list PySem.F.slot_list_pop PySem.F.type_list_pop hr ho hbase hl
  · exact pe_bm0 PySem.F.plainAttrs_list PySem.F.slot_list_clear PySem.F.type_list_clear hr ho hbase hl
/-- .. of some -/
theorem mth_call {m : Mf} {r : V → List V → Hp → VK → Prop} {o e : Expr} {es : List Expr} {to : TE} {t : TA} {apos pos : Pos} (hr : MtR X (mfI m) r) (ho : PE X o to) (ha : PA X (e :: es) t) (hb : plainB o = true) (hl : (apos.endLine == pos.line) = true)
    (hn : (e :: es).length = mfA m) (hst : (backTo pos (starEach (e :: es) X.env)).any (·.1) = false) (c1 : starEach (e :: es) X.env = (false, eval e X.env) :: starEach es X.env) (c2 : (backTo pos (starEach es X.env)).any (·.1) = false) :
    PE X (.Call (.Attribute o (mfN m) apos) (e :: es) [] pos) (tBM X.K (mfT m) r to t) := by
  have hbase := plainB_ok hb (mfN m) X.env (eval o X.env)
  have hf : ((backTo pos (starEach (e :: es) X.env)).all (fun x => !x.1) && (backToKw pos (keywordEach [] X.env)).all (fun x => x.1.isSome)
      && decide ((e :: es).length + ([] : List Keyword).length + (if ([] : List Keyword).isEmpty then 0 else 1) < 30)) = true := few_ok hst (by rw [hn]; cases m <;> decide)
  cases m
  case append => exact pe_bm PySem.F.plainAttrs_list PySem.F.slot_list_append PySem.F.type_list_append hr ho ha hbase hf hl c1 c2
  case pop => cases hn
  case extend => exact pe_bm PySem.F.plainAttrs_list PySem.F.slot_list_extend PySem.F.type_list_extend hr ho ha hbase hf hl c1 c2
  case insert => exact pe_bm PySem.F.plainAttrs_list PySem.F.slot_list_insert PySem.F.type_list_insert hr ho ha hbase hf hl c1 c2
  case join => exact pe_bm PySem.F.plainAttrs_str PySem.F.slot_str_join PySem.F.type_str_join hr ho ha hbase hf hl c1 c2
  case index => exact pe_bm PySem.F.plainAttrs_list PySem.F.slot_list_index PySem.F.type_list_index hr ho ha hbase hf hl c1 c2
  case clear => cases hn
end
/-! ### targets -/
theorem VR.parts {K : PySem.W.Frag} {cA : Str → Addr} {F : Hp} {β : List Addr} {S : Sto} {H : Hp} {v : Va} {x : V} {xs : List Va} (s : Sim K cA F β S H) (r : VR K F β v x) (h : partsOf S v = some xs) : ∃ a ys, x = .ref a ∧ VRs K F β xs ys ∧ (SqT K H a ys ∨ SqL K H a ys) := by
  cases v with
  | tup zs =>
    cases h
    obtain ⟨a, ys, rfl, t, q⟩ := r
    exact ⟨a, ys, rfl, q, .inl (SqT.mono s.sub t)⟩
  | lst zs =>
    cases h
    obtain ⟨a, ys, rfl, t, q⟩ := r
    exact ⟨a, ys, rfl, q, .inr (SqL.of (s.sub _ _ t))⟩
  | loc k =>
    simp only [partsOf] at h
    split at h
    · rename_i zs e
      cases h
      obtain ⟨a, ys, rfl, _, e2, q⟩ := loc_ok s e r
      exact ⟨a, ys, rfl, q, .inr (SqL.of e2)⟩
    · cases h
  | _ => cases h
section
variable (K : PySem.W.Frag) (cA : Str → Addr)
def liftG (is : List Nat) (w : Sto → Va → Env → Option Env) : TG := fun x σ H Q => ∃ F β Γ S v Γ', Sim K cA F β S H ∧ EnvR K F β Γ σ ∧ VR K F β v x ∧ w S v Γ = some Γ' ∧ ∀ σ', EnvR K F β Γ' σ' → σ'.length = σ.length → (∀ i, i ∉ is → σ'[i]? = σ[i]?) → Q σ' H
def liftGs (is : List Nat) (w : Sto → List Va → Env → Option Env) : TGs := fun x σ H Q => ∃ F β Γ S v Γ', Sim K cA F β S H ∧ EnvR K F β Γ σ ∧ VRs K F β v x ∧ w S v Γ = some Γ' ∧ ∀ σ', EnvR K F β Γ' σ' → σ'.length = σ.length → (∀ i, i ∉ is → σ'[i]? = σ[i]?) → Q σ' H
end
section
variable {c : Ctx} {cA : Str → Addr}
theorem asgn_cons {e : Expr} (h : noStar e = true) (es : List Expr) (env : PySem.Env) : assignEach (e :: es) env = (false, assign e env) :: assignEach es env := by
  cases e <;> first | rfl | cases h
theorem ckGs_len : ∀ (ts : Tgs) (es : List Expr) (env : PySem.Env), ckGs c ts es = true → (assignEach es env).length = es.length ∧ (assignEach es env).findIdx? (·.1) = none
  | .nil, es, env, h => by
    simp only [ckGs] at h
    split at h
    · exact ⟨rfl, rfl⟩
    · cases h
  | .cons t ts, es, env, h => by
    simp only [ckGs] at h
    split at h
    · obtain ⟨h, h3⟩ := ba h
      obtain ⟨h1, h2⟩ := ba h
      obtain ⟨i1, i2⟩ := ckGs_len ts _ env h3
      rw [asgn_cons h2]
      refine ⟨by simp [i1], ?_⟩
      rw [List.findIdx?_cons]
      simp [i2]
    · cases h
mutual
theorem sndG : ∀ (m : Tg) (X : Cx), X.N = c.N → X.N.Nodup → (∀ x, c.lc x = true → Loc X.env.scope x ∧ (X.fn x = true ∨ X.env.scope.names.lookup x = some .local)) → X.calm = true → ∀ (e : Expr), ckG c m e = true → PG X e (liftG X.K cA (tgS m) fun S v Γ => bindT S m v Γ)
  | .name i, X, hN, nd, hl, hc, e, h => by
    simp only [ckG] at h
    split at h
    · obtain ⟨h1, h2⟩ := ba h
      obtain ⟨l1, l2⟩ := hl _ h2
      refine (pg_name (i := i) nd (by rw [hN]; exact of_decide_eq_true h1) l1 l2).weak fun x σ H Q ⟨F, β, Γ, S, v, Γ', s, en, r, hb, q⟩ => ?_
      simp only [bindT] at hb
      cases hb
      refine q _ (en.set r) (List.length_set ..) fun j hj => ?_
      rw [List.getElem?_set_ne]
      intro e; subst e
      exact hj (by simp [tgS])
    · cases h
  | .tup ts, X, hN, nd, hl, hc, e, h => by
    simp only [ckG] at h
    split at h
    · rename_i es k p
      obtain ⟨z1, z2⟩ := ckGs_len ts _ X.env h
      have key := sndGs ts X hN nd hl hc _ h
      refine ((pg_tup (n := es.length) (k := k) (pos := p) hc key z1 z2).or (pg_lst (n := es.length) hc key z1 z2)).weak fun x σ H Q ⟨F, β, Γ, S, v, Γ', s, en, r, hb, q⟩ => ?_
      simp only [bindT] at hb
      split at hb
      · rename_i xs hp
        obtain ⟨a, ys, rfl, qq, hs⟩ := r.parts s hp
        have hlen : ys.length = es.length := by
          rw [← qq.len]; exact bindTs_len ts _ _ _ _ hb es h
        rcases hs with hs | hs
        · exact .inl ⟨a, ys, rfl, hs, hlen, F, β, Γ, S, xs, Γ', s, en, qq, hb, q⟩
        · exact .inr ⟨a, ys, rfl, hs, hlen, F, β, Γ, S, xs, Γ', s, en, qq, hb, q⟩
      · cases hb
    · cases h
theorem sndGs : ∀ (m : Tgs) (X : Cx), X.N = c.N → X.N.Nodup → (∀ x, c.lc x = true → Loc X.env.scope x ∧ (X.fn x = true ∨ X.env.scope.names.lookup x = some .local)) → X.calm = true → ∀ (e : List Expr), ckGs c m e = true → PGs X e (liftGs X.K cA (tgsS m) fun S v Γ => bindTs S m v Γ)
  | .nil, X, hN, nd, hl, hc, e, h => by
    simp only [ckGs] at h
    split at h
    · refine pgs_nil.weak fun x σ H Q ⟨F, β, Γ, S, v, Γ', s, en, r, hb, q⟩ => ?_
      cases v with
      | nil =>
        cases hb
        cases (show x = [] from r)
        exact ⟨rfl, q σ en rfl fun _ _ => rfl⟩
      | cons _ _ => cases hb
    · cases h
  | .cons t ts, X, hN, nd, hl, hc, e, h => by
    simp only [ckGs] at h
    split at h
    · obtain ⟨h, h3⟩ := ba h
      obtain ⟨h1, h2⟩ := ba h
      refine (pgs_cons (sndG t X hN nd hl hc _ h1) (sndGs ts X hN nd hl hc _ h3) (by rw [asgn_cons h2]; rfl)).weak fun x σ H Q ⟨F, β, Γ, S, v, Γ', s, en, r, hb, q⟩ => ?_
      cases v with
      | nil => cases hb
      | cons v vs =>
        obtain ⟨y, ys, rfl, r1, r2⟩ := r
        simp only [bindTs] at hb
        split at hb
        · rename_i Γ1 hb1
          refine ⟨y, ys, rfl, F, β, Γ, S, v, Γ1, s, en, r1, hb1, fun σ1 en1 l1 o1 => ⟨F, β, Γ1, S, vs, Γ', s, en1, r2, hb, fun σ2 en2 l2 o2 => ?_⟩⟩
          refine q σ2 en2 (l2.trans l1) fun i hi => ?_
          simp only [tgsS, List.mem_append, not_or] at hi
          rw [o2 i hi.2, o1 i hi.1]
        · cases hb
    · cases h
theorem bindTs_len : ∀ (ts : Tgs) (S : Sto) (xs : List Va) (Γ Γ' : Env), bindTs S ts xs Γ = some Γ' → ∀ es, ckGs c ts es = true → xs.length = es.length
  | .nil, S, [], Γ, Γ', _, es, h => by
    simp only [ckGs] at h
    split at h
    · rfl
    · cases h
  | .nil, S, _ :: _, Γ, Γ', hb, es, h => by cases hb
  | .cons t ts, S, [], Γ, Γ', hb, es, h => by cases hb
  | .cons t ts, S, x :: xs, Γ, Γ', hb, es, h => by
    simp only [ckGs] at h
    split at h
    · obtain ⟨h, h3⟩ := ba h
      simp only [bindTs] at hb
      split at hb
      · simp [bindTs_len ts S xs _ _ hb _ h3]
      · cases hb
    · cases h
end
end
theorem wipe_ext {σ σ2 : St} {vs is : List Nat} (h1 : ∀ i, i ∉ is → σ2[i]? = (wipe σ vs)[i]?) (h2 : σ2.length = (wipe σ vs).length) (h3 : ∀ i ∈ is, i ∈ vs) : wipe σ2 vs = wipe σ vs := by
  have key : ∀ (σ : St) (vs : List Nat) (i : Nat), i ∈ vs → (wipe σ vs)[i]? = if i < σ.length then some none else none := by
    intro σ vs
    induction vs with
    | nil => intro i h; cases h
    | cons v vs ih =>
      intro i h
      unfold wipe
      by_cases e : v = i
      · subst e
        by_cases hl : v < σ.length
        · rw [List.getElem?_set_self (by rw [wipe_length]; exact hl), if_pos hl]
        · rw [List.getElem?_eq_none (by rw [List.length_set, wipe_length]; omega), if_neg hl]
      · rw [List.getElem?_set_ne e]
        rcases List.mem_cons.mp h with z | z
        · exact absurd z.symm e
        · exact ih i z
  rw [wipe_length] at h2
  apply List.ext_getElem?
  intro i
  by_cases hi : i ∈ vs
  · rw [key σ2 vs i hi, key σ vs i hi, h2]
  · rw [wipe_out hi, h1 i fun z => hi (h3 i z)]
theorem wipe_wipe {σ σ2 : St} {own is : List Nat} (h1 : ∀ i, i ∉ is → σ2[i]? = (L2.wipe σ own)[i]?) (h2 : σ2.length = (L2.wipe σ own).length) (h3 : ∀ i ∈ is, i ∈ own) : L2.wipe σ2 own = L2.wipe σ own := wipe_ext h1 h2 h3
theorem EnvR.wipe {K : PySem.W.Frag} {F : Hp} {β : List Addr} {Γ : Env} {σ : St} (h : EnvR K F β Γ σ) : ∀ vs : List Nat, EnvR K F β (wipeA Γ vs) (L2.wipe σ vs)
  | [] => h
  | v :: vs => (EnvR.wipe h vs).wipe1
/-! ### walks -/
section
variable {K : PySem.W.Frag} {cA : Str → Addr} {F : Hp} {β : List Addr} {xs : List Va} {J : L2.It} {GH : Hp → Prop} {G : Sto → Prop}
theorem itok_w {n : Nat} (hn : n = xs.length) (h : ∀ F' β' S H, Ext F β F' β' → Sim K cA F' β' S H → G S → ∃ GH Y, Walk J n GH Y ∧ GH H ∧ ∀ i x H', i < n → Y i H x H' → ∃ F2 v, xs[i]? = some v ∧ Ext F' β' F2 β' ∧ Sim K cA F2 β' S H' ∧ VR K F2 β' v x) : ItOk K cA F β J xs G where
  go := fun F' β' S H i e s g hi => let ⟨_, _, w, q, _⟩ := h F' β' S H e s g; w.goes i H (by omega) q
  stop := fun F' β' S H e s g => let ⟨_, _, w, q, _⟩ := h F' β' S H e s g; by rw [← hn]; exact w.stops H q
  yld := fun F' β' S H i x H' e s g hi y => let ⟨_, _, w, q, z⟩ := h F' β' S H e s g; z i x H' (by omega) (w.yields i H x H' (by omega) q y)
theorem pair_yl {a b : Nat → Option V} {S : Sto} {H H' : Hp} {i : Nat} {x : V} (s : Sim K cA F β S H) (y : YPair a b i H x H') (hf : ∀ p q, a i = some p → b i = some q → ∃ v u, xs[i]? = some (.tup [v, u]) ∧ VR K F β v p ∧ VR K F β u q) :
    ∃ F2 v, xs[i]? = some v ∧ Ext F β F2 β ∧ Sim K cA F2 β S H' ∧ VR K F2 β v x := by
  obtain ⟨T, p, q, rfl, hT, rfl, h1, h2⟩ := y
  obtain ⟨v, u, h3, r1, r2⟩ := hf p q h1 h2
  obtain ⟨s2, sb⟩ := s.lay hT (.tup [p, q])
  have e2 : Ext F β (upd F T (.tup [p, q])) β := ⟨sb, List.prefix_refl _⟩
  exact ⟨_, .tup [v, u], h3, e2, s2, T, [p, q], rfl, SqT.of upd_same, p, [q], rfl, r1.ext e2, q, [], rfl, r2.ext e2, rfl⟩
theorem VRs.at {ys : List V} {i : Nat} (q : VRs K F β xs ys) {x : V} (h : ys[i]? = some x) : ∃ v, xs[i]? = some v ∧ VR K F β v x := by
  have hi : i < xs.length := by rw [q.len]; exact lt_of_get h
  obtain ⟨z, h1, h2⟩ := q.get (i := i) (v := xs[i]) (by simp [hi])
  rw [h] at h1
  cases h1
  exact ⟨xs[i], by simp [hi], h2⟩
/-- where a list stands, while G -/
def LAt (K : PySem.W.Frag) (cA : Str → Addr) (F : Hp) (β : List Addr) (a : Addr) (xs : List Va) (G : Sto → Prop) : Prop := ∀ F' β' S H, Ext F β F' β' → Sim K cA F' β' S H → G S → ∃ ys, SqL K H a ys ∧ VRs K F' β' xs ys
theorem itok_l {a : Addr} (h : LAt K cA F β a xs G) (ys : List V) (hy : VRs K F β xs ys) : ItOk K cA F β (Itl K a) xs G := by
  refine itok_w (n := ys.length) hy.len.symm fun F' β' S H e s g => ?_
  obtain ⟨zs, q, r⟩ := h F' β' S H e s g
  have hl : ys.length = zs.length := by rw [← hy.len, r.len]
  rw [hl]
  refine ⟨_, _, walk_list (xs := zs), q, fun i x H' hi ⟨e1, e2⟩ => ?_⟩
  subst e1
  obtain ⟨v, h1, h2⟩ := r.at e2
  exact ⟨F', v, h1, Ext.refl _ _, s, h2⟩
theorem itok_t {a : Addr} {ys : List V} (h : SqT K F a ys) (hy : VRs K F β xs ys) : ItOk K cA F β (Itt K a) xs fun _ => True := by
  refine itok_w (n := ys.length) hy.len.symm fun F' β' S H e s g => ?_
  refine ⟨_, _, walk_tup (xs := ys), SqT.mono s.sub (SqT.mono e.sub h), fun i x H' hi ⟨e1, e2⟩ => ?_⟩
  subst e1
  obtain ⟨v, h1, h2⟩ := (hy.ext e).at e2
  exact ⟨F', v, h1, Ext.refl _ _, s, h2⟩
theorem itok_s {z : Str} : ItOk K cA F β (Its z) (z.cps.toList.map fun c => Va.str ⟨#[c]⟩) fun _ => True := by
  refine itok_w (n := z.cps.size) (by simp) fun F' β' S H e s g => ?_
  refine ⟨_, _, walk_str, trivial, fun i x H' hi ⟨e1, c, e2, e3⟩ => ?_⟩
  subst e1 e3
  refine ⟨F', .str ⟨#[c]⟩, ?_, Ext.refl _ _, s, rfl⟩
  rw [List.getElem?_map, Array.getElem?_toList, e2]; rfl
theorem itok_r {lo : Int} {n : Nat} : ItOk K cA F β (Itr lo n) (rangeV lo n) fun _ => True := by
  refine itok_w (n := n) (by simp [rangeV]) fun F' β' S H e s g => ?_
  refine ⟨_, _, walk_range, trivial, fun i x H' hi ⟨e1, e2⟩ => ?_⟩
  subst e1 e2
  refine ⟨F', .int (lo + i), ?_, Ext.refl _ _, s, rfl⟩
  unfold rangeV
  rw [List.getElem?_map, List.getElem?_range hi]; rfl
theorem itok_v {a : Addr} (h : LAt K cA F β a xs G) (ys : List V) (hy : VRs K F β xs ys) : ItOk K cA F β (Itv K a ys.length) xs.reverse G := by
  refine itok_w (n := ys.length) (by rw [List.length_reverse, hy.len]) fun F' β' S H e s g => ?_
  obtain ⟨zs, q, r⟩ := h F' β' S H e s g
  have hl : ys.length = zs.length := by rw [← hy.len, r.len]
  rw [hl]
  refine ⟨_, _, walk_rev (xs := zs), q, fun i x H' hi ⟨e1, e2⟩ => ?_⟩
  subst e1
  obtain ⟨v, h1, h2⟩ := r.at e2
  refine ⟨F', v, ?_, Ext.refl _ _, s, h2⟩
  rw [List.getElem?_reverse (by rw [r.len]; exact hi), r.len]; exact h1
theorem enumV_get : ∀ (xs : List Va) (n i : Nat) (v : Va), xs[i]? = some v → (enumV n xs)[i]? = some (.tup [.int ((n + i : Nat) : Int), v])
  | [], _, _, _, h => by simp at h
  | x :: xs, n, 0, v, h => by
    have e : x = v := by simpa using h
    subst e
    rfl
  | x :: xs, n, i + 1, v, h => by
    have := enumV_get xs (n + 1) i v (by simpa using h)
    simp only [enumV, List.getElem?_cons_succ]
    rw [this]
    congr 5
    omega
theorem enumV_len : ∀ (xs : List Va) (n : Nat), (enumV n xs).length = xs.length
  | [], _ => rfl
  | x :: xs, n => by simp [enumV, enumV_len xs]
theorem itok_e {a : Addr} (h : LAt K cA F β a xs G) (ys : List V) (hy : VRs K F β xs ys) : ItOk K cA F β (Ite K a) (enumV 0 xs) G := by
  refine itok_w (n := ys.length) (by rw [enumV_len, hy.len]) fun F' β' S H e s g => ?_
  obtain ⟨zs, q, r⟩ := h F' β' S H e s g
  have hl : ys.length = zs.length := by rw [← hy.len, r.len]
  rw [hl]
  refine ⟨_, _, walk_enum (xs := zs), q, fun i x H' hi y => pair_yl s y fun p q hp hq => ?_⟩
  cases hp
  obtain ⟨v, h1, h2⟩ := r.at hq
  refine ⟨.int (i : Nat), v, ?_, rfl, h2⟩
  rw [enumV_get xs 0 i v h1, Nat.zero_add]
theorem zipV_get : ∀ (xs ys : List Va) (i : Nat) (v u : Va), xs[i]? = some v → ys[i]? = some u → (zipV xs ys)[i]? = some (.tup [v, u])
  | [], _, _, _, _, h, _ => by simp at h
  | _ :: _, [], _, _, _, _, h => by simp at h
  | x :: xs, y :: ys, 0, v, u, h, h' => by
    have e : x = v := by simpa using h
    have e' : y = u := by simpa using h'
    subst e e'
    rfl
  | x :: xs, y :: ys, i + 1, v, u, h, h' => by
    simp only [zipV, List.getElem?_cons_succ]
    exact zipV_get xs ys i v u (by simpa using h) (by simpa using h')
theorem zipV_len : ∀ (xs ys : List Va), (zipV xs ys).length = min xs.length ys.length
  | [], ys => by simp [zipV]
  | _ :: _, [] => by simp [zipV]
  | x :: xs, y :: ys => by simp [zipV, zipV_len xs ys]
theorem itok_z {a b : Addr} {us : List Va} {G' : Sto → Prop} (h : LAt K cA F β a xs G) (ys : List V) (hy : VRs K F β xs ys) (h' : LAt K cA F β b us G') (ys' : List V) (hy' : VRs K F β us ys') : ItOk K cA F β (Itz K a b) (zipV xs us) fun S => G S ∧ G' S := by
  refine itok_w (n := min ys.length ys'.length) (by rw [zipV_len, hy.len, hy'.len]) fun F' β' S H e s ⟨g, g'⟩ => ?_
  obtain ⟨zs, q, r⟩ := h F' β' S H e s g
  obtain ⟨ws, q', r'⟩ := h' F' β' S H e s g'
  have hl : ys.length = zs.length := by rw [← hy.len, r.len]
  have hl' : ys'.length = ws.length := by rw [← hy'.len, r'.len]
  rw [hl, hl']
  refine ⟨_, _, walk_zip (xs := zs) (ys := ws) rfl, ⟨q, q'⟩, fun i x H' hi y => pair_yl s y fun p q hp hq => ?_⟩
  obtain ⟨v, h1, h2⟩ := r.at hp
  obtain ⟨u, h3, h4⟩ := r'.at hq
  exact ⟨v, u, zipV_get _ _ _ _ _ h1 h3, h2, h4⟩
theorem ItOk.ext {F' : Hp} {β' : List Addr} (h : ItOk K cA F β J xs G) (e : Ext F β F' β') : ItOk K cA F' β' J xs G :=
  ⟨fun F2 β2 S H i e2 => h.go F2 β2 S H i (e.trans e2), fun F2 β2 S H e2 => h.stop F2 β2 S H (e.trans e2), fun F2 β2 S H i x H' e2 => h.yld F2 β2 S H i x H' (e.trans e2)⟩
theorem LAt.ext {F' : Hp} {β' : List Addr} {a : Addr} (h : LAt K cA F β a xs G) (e : Ext F β F' β') : LAt K cA F' β' a xs G := fun F2 β2 S H e2 => h F2 β2 S H (e.trans e2)
/-- what a list to be walked is -/
theorem wLst_ok {S : Sto} {H : Hp} {v : Va} {x : V} {P : PI_} (s : Sim K cA F β S H) (r : VR K F β v x) (h : wLst v S P) :
    ∃ a ys xs G, x = .ref a ∧ SqL K H a ys ∧ VRs K F β xs ys ∧ LAt K cA F β a xs G ∧ P xs G S := by
  unfold wLst at h
  split at h <;> first | exact h.elim | skip
  · obtain ⟨a, ys, rfl, t, q⟩ := r
    exact ⟨a, ys, _, _, rfl, SqL.of (s.sub _ _ t), q, fun F' β' S H e s _ => ⟨ys, SqL.of (s.sub _ _ (e.sub _ _ t)), q.ext e⟩, h⟩
  · obtain ⟨a, rfl, t⟩ := r
    exact ⟨a, _, _, _, rfl, SqL.mono s.sub t, VRs.ints.mpr rfl, fun F' β' S H e s _ => ⟨_, SqL.mono s.sub (SqL.mono e.sub t), VRs.ints.mpr rfl⟩, h⟩
  · obtain ⟨zs, h0, h⟩ := h
    obtain ⟨a, ys, rfl, t, e2, q⟩ := loc_ok s h0 r
    refine ⟨a, ys, zs, _, rfl, SqL.of e2, q, fun F' β' S' H' e s' g => ?_, h⟩
    obtain ⟨a', ys', e3, t', e4, q'⟩ := loc_ok s' g (x := .ref a) ⟨a, rfl, pre_get e.pre t⟩
    cases e3
    exact ⟨ys', SqL.of e4, q'⟩
/-- what is walked by itself -/
theorem wSeq_ok {S : Sto} {H : Hp} {v : Va} {x : V} {P : PI_} (s : Sim K cA F β S H) (r : VR K F β v x) (h : wSeq v S P) :
    ∃ xs G, ((∃ a ys, x = .ref a ∧ SqL K H a ys ∧ ItOk K cA F β (Itl K a) xs G) ∨ (∃ a ys, x = .ref a ∧ SqT K H a ys ∧ ItOk K cA F β (Itt K a) xs G) ∨ ∃ z, x = .str z ∧ ItOk K cA F β (Its z) xs G) ∧ P xs G S := by
  have key : wLst v S P → ∃ xs G, ((∃ a ys, x = .ref a ∧ SqL K H a ys ∧ ItOk K cA F β (Itl K a) xs G) ∨ (∃ a ys, x = .ref a ∧ SqT K H a ys ∧ ItOk K cA F β (Itt K a) xs G) ∨ ∃ z, x = .str z ∧ ItOk K cA F β (Its z) xs G) ∧ P xs G S := fun h => by
    obtain ⟨a, ys, xs, G, e, q, r, l, p⟩ := wLst_ok s r h
    exact ⟨xs, G, .inl ⟨a, ys, e, q, itok_l l ys r⟩, p⟩
  cases v with
  | lst xs => exact key h
  | scr ns => exact key h
  | loc k => exact key h
  | tup xs =>
    obtain ⟨a, ys, rfl, t, q⟩ := r
    exact ⟨xs, _, .inr (.inl ⟨a, ys, rfl, SqT.mono s.sub t, itok_t t q⟩), h⟩
  | str z =>
    cases r
    exact ⟨_, _, .inr (.inr ⟨z, rfl, itok_s⟩), h⟩
  | _ => exact h.elim
end
theorem pi_seqA {X : Cx} {tg e : Expr} {te : TE} (he : PE X e te) : PI X tg e (fun σ H R => te σ H fun x H1 => (∃ a ys, x = .ref a ∧ SqL X.K H1 a ys ∧ R (Itl X.K a) H1) ∨ (∃ a ys, x = .ref a ∧ SqT X.K H1 a ys ∧ R (Itt X.K a) H1) ∨ ∃ z, x = .str z ∧ R (Its z) H1) := by
  refine ⟨fun pins s σ H R I h => thn (he.run pins s σ H _ I h) fun v s1 ⟨x, H1, I1, r1, q1⟩ => ?_⟩
  rcases q1 with ⟨a, ys, rfl, hq, q⟩ | ⟨a, ys, rfl, hq, q⟩ | ⟨z, rfl, q⟩
  · cases r1
    obtain ⟨its, rv, p, hz⟩ := I1.list hq
    exact wpAny_pyIter_list p.isList (pi_one (tk := s1.toks) I1 _ (turn_list a _) ⟨_, Heap.get?_push_size _ rfl, rfl, rfl⟩ q)
  · cases r1
    obtain ⟨its, rv, p, hz⟩ := I1.tuple hq
    exact wpAny_pyIter_tuple (show s1.heap.IsTuple a its.toArray from p) (pi_one (tk := s1.toks) I1 _ (turn_tuple a _) ⟨_, Heap.get?_push_size _ rfl, rfl, rfl⟩ q)
  · obtain ⟨t, rfl⟩ := r1
    cases hz : z.cps.all (· < 128)
    · exact wpAny_pyIter_wide hz (pi_one (tk := s1.toks) I1 _ (turn_str _ z t "str_iterator" (.inr rfl)) ⟨_, Heap.get?_push_size _ rfl, rfl, rfl⟩ q)
    · exact wpAny_pyIter_ascii hz (pi_one (tk := s1.toks) I1 _ (turn_str _ z t "str_ascii_iterator" (.inl rfl)) ⟨_, Heap.get?_push_size _ rfl, rfl, rfl⟩ q)
theorem any_star {c : Ctx} : ∀ (ms : Exs) (es : List Expr) (pos : Pos) (env : PySem.Env), ckL c ms es = true → (backTo pos (starEach es env)).any (·.1) = false
  | .nil, es, pos, env, h => by
    simp only [ckL] at h
    split at h
    · rfl
    · cases h
  | .cons m ms, es, pos, env, h => by
    simp only [ckL] at h
    split at h
    · obtain ⟨h, h3⟩ := ba h
      obtain ⟨h1, h2⟩ := ba h
      rw [star_cons h2]
      have := any_star ms _ pos env h3
      simpa [backTo] using this
    · cases h

theorem ckL_first {c : Ctx} (es : Exs) (e1 : Expr) (es' : List Expr) (pos : Pos) (env : PySem.Env) (h3 : ckL c es (e1 :: es') = true) : starEach (e1 :: es') env = (false, eval e1 env) :: starEach es' env ∧ (backTo pos (starEach es' env)).any (·.1) = false := by
  cases es with
  | nil => simp only [ckL] at h3; cases h3
  | cons m ms =>
    simp only [ckL] at h3
    obtain ⟨h3, h5⟩ := ba h3
    exact ⟨star_cons (ba h3).2 _ _, any_star ms _ _ _ h5⟩
theorem ckI_fold {c : Ctx} {m : It} {tg e : Expr} (h : ckI c m tg e = true) (env : PySem.Env) : ∀ x, foldedSetIterable e env x = pure x := by
  have key : noSet e = true → ∀ x, foldedSetIterable e env x = pure x := fun h x => by
    cases e <;> first | rfl | cases h
  cases m
  case seq m =>
    simp only [ckI] at h
    exact key (ba h).2
  all_goals
    simp only [ckI] at h
    split at h
    · intro x; rfl
    · cases h
theorem ownA_ix (N : List Str) (own : List Nat) : (ownA N own).map (·.2) = own := by
  unfold ownA
  rw [List.map_map]
  exact List.map_id' own
theorem Gd.u65 {c : Ctx} {cA : Str → Addr} {T : Tab} {k : Nat} {Wx : WX} {X : Cx} (g : Gd c cA T k Wx X) : X.A.units + 65 < cLine := by
  have := g.room.un
  omega
/-- a comprehension's turns -/
theorem comp_ok {K : PySem.W.Frag} {cA : Str → Addr} {C : Orc} (hC : OrcMono C) {F F1 : Hp} {β β1 : List Addr} {S1 : Sto} {H1 : Hp} {Γ : Env} {σ : St} {J : L2.It} {xs : List Va} {G : Sto → Prop} {Q : VK} {own : List Nat} {elt : Ex} {tg : Tg} {cond : Tes0}
    (e1 : Ext F β F1 β1) (s1 : Sim K cA F1 β1 S1 H1) (en : EnvR K F1 β1 Γ σ) (i1 : ItOk K cA F1 β1 J xs G)
    (q : G (S1 ++ [.lst []]) ∧ cpL (fun x S => bindT S tg x (wipeA Γ own)) (fun Γ S Q => WT0 C cond Γ S Q) (fun Γ S Q => W C elt Γ S Q (fun _ _ => False)) G S1.length (post K cA F β Q) xs (S1 ++ [.lst []])) (hin : ∀ i ∈ tgS tg, i ∈ own) :
    ∀ D, H1 D = none → ∃ Wd : Nat → Nat → Hp → Prop, (∃ m, Wd 0 m (upd H1 D (.lst []))) ∧ ∀ i m H, Wd i m H →
      (J.stop i H ∧ Q (.ref D) H) ∨ (J.go i H ∧ ∃ Nx : Hp → Prop, (∀ H', Nx H' → ∃ m', m' < m ∧ Wd (i + 1) m' H') ∧ ∀ x H', J.yld i H x H' → liftG K cA (tgS tg) (fun S v Γ => bindT S tg v Γ) x (wipe σ own) H' fun σ2 H2 => wipe σ2 own = wipe σ own ∧
        liftT K cA (fun _ _ _ _ => False) (fun Γ S P _ => WT0 C cond Γ S P) σ2 H2 fun b H3 => if b = true then liftE K cA (fun _ _ _ _ => False) (W C elt) σ2 H3 fun y H4 => ∃ acc, H4 D = some (.lst acc) ∧ acc.length < sizeLine ∧ Nx (upd H4 D (.lst (acc ++ [y]))) else Nx H3) := by
  intro D hD
  have s2 := s1.new hD (o := .lst []) (u := .lst []) ⟨[], upd_same, rfl⟩
  have eD : Ext F1 β1 F1 (β1 ++ [D]) := ⟨Same.refl _, List.prefix_append _ _⟩
  have atD : (β1 ++ [D])[S1.length]? = some D := by rw [← s1.len]; simp
  obtain ⟨q1, q2⟩ := q
  refine ⟨fun i m H => m = xs.length - i ∧ i ≤ xs.length ∧ ∃ F' β' S', Ext F1 (β1 ++ [D]) F' β' ∧ Sim K cA F' β' S' H ∧ G S' ∧ cpL (fun x S => bindT S tg x (wipeA Γ own)) (fun Γ S Q => WT0 C cond Γ S Q) (fun Γ S Q => W C elt Γ S Q (fun _ _ => False)) G S1.length (post K cA F β Q) (xs.drop i) S',
    ⟨xs.length, rfl, Nat.zero_le _, F1, β1 ++ [D], S1 ++ [Ob.lst []], Ext.refl _ _, s2, q1, by exact q2⟩, ?_⟩
  rintro i m H ⟨rfl, hi, F', β', S', e', s', g', c'⟩
  have eJ : Ext F1 β1 F' β' := eD.trans e'
  by_cases hlt : i < xs.length
  · refine .inr ⟨i1.go F' β' S' H i eJ s' g' hlt, fun H' => ∃ F' β' S', Ext F1 (β1 ++ [D]) F' β' ∧ Sim K cA F' β' S' H' ∧ G S' ∧ cpL (fun x S => bindT S tg x (wipeA Γ own)) (fun Γ S Q => WT0 C cond Γ S Q) (fun Γ S Q => W C elt Γ S Q (fun _ _ => False)) G S1.length (post K cA F β Q) (xs.drop (i + 1)) S',
      fun H' z => ⟨xs.length - (i + 1), by omega, rfl, hlt, z⟩, fun x H' hy => ?_⟩
    obtain ⟨F2, v, hv, e2, s2, r2⟩ := i1.yld F' β' S' H i x H' eJ s' g' hlt hy
    have hd : xs.drop i = v :: xs.drop (i + 1) := by
      rw [List.drop_eq_getElem_cons hlt]
      rw [List.getElem?_eq_getElem hlt] at hv
      cases hv; rfl
    rw [hd] at c'
    obtain ⟨Γ1, hb, ht⟩ := c'
    refine ⟨F2, β', wipeA Γ own, S', v, Γ1, s2, (en.ext (eJ.trans e2)).wipe own, r2, hb, fun σ2 en2 l2 o2 => ⟨wipe_wipe o2 l2 hin, F2, β', Γ1, S', s2, en2, WT0_mono hC cond _ _ _ _ (fun b S3 q3 F3 β3 H3 e3 s3 => ?_) ht⟩⟩
    cases b with
    | false => exact ⟨F3, β3, S3, (e'.trans e2).trans e3, s3, q3⟩
    | true =>
      refine ⟨F3, β3, Γ1, S3, s3, en2.ext e3, W_mono hC elt _ _ _ _ _ _ (fun y S4 ⟨acc, h1, h2, h3, h4⟩ F4 β4 H4 z e4 s4 r4 => ?_) (fun _ _ z => z.elim) q3⟩
      have eD4 : Ext F1 (β1 ++ [D]) F4 β4 := ((e'.trans e2).trans e3).trans e4
      have aD : β4[S1.length]? = some D := pre_get eD4.pre atD
      obtain ⟨a, ys, ea, ta, e5, q5⟩ := loc_ok s4 h1 (x := .ref D) ⟨D, rfl, aD⟩
      cases ea
      refine ⟨ys, e5, by rw [← q5.len]; exact Nat.lt_trans h2 (by decide), F4, β4, _, eD4, put_lst s4 h1 aD (VRs.append q5 (VRs.one r4)), h3, h4⟩
  · have ei : i = xs.length := by omega
    subst ei
    refine .inl ⟨i1.stop F' β' S' H eJ s' g', ?_⟩
    rw [List.drop_length] at c'
    exact c' F' β' H (.ref D) (e1.trans eJ) s' ⟨D, rfl, pre_get e'.pre atD⟩
section
variable {c : Ctx} {cA : Str → Addr} {T : Tab} {k : Nat}
mutual
theorem sndE : ∀ (c : Ctx) (m : Ex) (X : Cx) (Wx : WX), Gd c cA T k Wx X → ∀ (e : Expr), ckE c m e = true → PE X e (liftE X.K cA Wx (W (call T k) m))
  | c, .var i, X, Wx, g, e, h => by
    simp only [ckE] at h
    split at h
    · obtain ⟨h1, h2⟩ := ba h
      refine (pe_var (i := i) (by rw [g.hN]; exact of_decide_eq_true h1) (g.vis _ h2) ?_ ?_).weak fun σ H Q ⟨F, β, Γ, S, s, en, v, hv, q⟩ => ?_
      · have := (ba (ba h2).1).2; simpa using this
      · have := (ba h2).2; simpa using this
      · obtain ⟨x, e1, r⟩ := en.get hv
        exact ⟨x, e1, post_here s r q⟩
    · cases h
  | c, .int i, X, Wx, g, e, h => by
    simp only [ckE] at h
    split at h
    · have := of_decide_eq_true h
      subst this
      exact pe_int.weak fun σ H Q ⟨F, β, Γ, S, s, en, q⟩ => post_here (v := .int _) s rfl q
    · cases h
  | c, .bl b, X, Wx, g, e, h => by
    simp only [ckE] at h
    split at h
    · have := of_decide_eq_true h
      subst this
      exact pe_bl.weak fun σ H Q ⟨F, β, Γ, S, s, en, q⟩ => post_here (v := .bl _) s rfl q
    · cases h
  | c, .non, X, Wx, g, e, h => by
    simp only [ckE] at h
    split at h
    · exact pe_non.weak fun σ H Q ⟨F, β, Γ, S, s, en, q⟩ => post_here (v := .non) s rfl q
    · cases h
  | c, .str x, X, Wx, g, e, h => by
    simp only [ckE] at h
    split at h
    · have := of_decide_eq_true h
      subst this
      exact pe_str.weak fun σ H Q ⟨F, β, Γ, S, s, en, q⟩ => post_here (v := .str _) s rfl q
    · cases h
  | c, .glob x, X, Wx, g, e, h => by simp only [ckE] at h; cases h
  | c, .tup es, X, Wx, g, e, h => by
    simp only [ckE] at h
    split at h
    · refine (pe_tup (sndL _ es X Wx g _ h)).weak fun σ H Q ⟨F, β, Γ, S, s, en, q⟩ => ?_
      refine runL (call_mono T k) s en q (fun _ _ q => q) fun F1 β1 S1 H1 vs xs e1 s1 r1 ⟨z, q1⟩ => ⟨?_, fun p hp => ?_⟩
      · rw [← r1.len]; exact Nat.le_trans z (by decide)
      · obtain ⟨s2, sb⟩ := s1.lay hp (.tup xs)
        exact q1 _ _ _ _ ⟨e1.sub.trans sb, e1.pre⟩ s2 ⟨p, xs, rfl, SqT.of upd_same, VRs.mono sb (List.prefix_refl _) _ _ r1⟩
    · cases h
  | c, .lst es, X, Wx, g, e, h => by
    simp only [ckE] at h
    split at h
    · refine (pe_lst (sndL _ es X Wx g _ h)).weak fun σ H Q ⟨F, β, Γ, S, s, en, q⟩ => ?_
      refine runL (call_mono T k) s en q (fun _ _ q => q) fun F1 β1 S1 H1 vs xs e1 s1 r1 ⟨z, q1⟩ => ⟨?_, fun p hp => ?_⟩
      · rw [← r1.len]; exact Nat.le_trans z (by decide)
      · have s2 := s1.new hp (o := .lst vs) (u := .lst xs) ⟨xs, upd_same, VRs.mono (Same.refl _) (List.prefix_append _ _) _ _ r1⟩
        refine q1 _ _ _ _ ⟨e1.sub, e1.pre.trans (List.prefix_append _ _)⟩ s2 ⟨p, rfl, ?_⟩
        rw [← s1.len]; simp
    · cases h
  | c, .bin op a b, X, Wx, g, e, h => by
    simp only [ckE] at h
    split at h
    · obtain ⟨h, h3⟩ := ba h
      obtain ⟨h1, h2⟩ := ba h
      obtain ⟨r, ho, hs⟩ := bin_ok (X := X) (cA := cA) h1
      refine (pe_op ho (sndE _ a X Wx g _ h2) (sndE _ b X Wx g _ h3)).weak fun σ H Q ⟨F, β, Γ, S, s, en, q⟩ => ?_
      refine runE (call_mono T k) s en q (fun _ _ q => q) fun F1 β1 S1 H1 v x e1 s1 r1 q1 => ?_
      refine runE (call_mono T k) s1 (en.ext e1) q1 (postX_ext e1) fun F2 β2 S2 H2 u y e2 s2 r2 q2 => ?_
      exact hs F2 β2 S2 H2 v u x y Q s2 (r1.ext e2) r2 (wBin_mono (fun _ _ z => post_ext (e1.trans e2) z) q2)
    · cases h
  | c, .neg a, X, Wx, g, e, h => by
    simp only [ckE] at h
    split at h
    · refine (pe_un un_neg (sndE _ a X Wx g _ h)).weak fun σ H Q ⟨F, β, Γ, S, s, en, q⟩ => ?_
      refine runE (call_mono T k) s en q (fun _ _ q => q) fun F1 β1 S1 H1 v x e1 s1 r1 q1 => ?_
      exact neg_ok s1 r1 (wNeg_mono (fun _ _ z => post_ext e1 z) q1)
    · cases h
  | c, .cmp op a b, X, Wx, g, e, h => by
    simp only [ckE] at h
    split at h
    · obtain ⟨h, h4⟩ := ba h
      obtain ⟨h, h3⟩ := ba h
      obtain ⟨h1, h2⟩ := ba h
      obtain ⟨r, ho, hs⟩ := cmp_ok (X := X) (cA := cA) g.u65 h1
      refine (pe_cmpR ho (sndE _ a X Wx g _ h2) (sndE _ b X Wx g _ h3) (noSet_mark h4 _)).weak fun σ H Q ⟨F, β, Γ, S, s, en, q⟩ => ?_
      refine runE (call_mono T k) s en q (fun _ _ q => q) fun F1 β1 S1 H1 v x e1 s1 r1 q1 => ?_
      refine runE (call_mono T k) s1 (en.ext e1) q1 (postX_ext e1) fun F2 β2 S2 H2 u y e2 s2 r2 q2 => ?_
      exact hs F2 β2 S2 H2 v u x y Q s2 (r1.ext e2) r2 (wCmp_mono (fun _ _ z => post_ext (e1.trans e2) z) q2)
    · cases h
  | c, .isN a, X, Wx, g, e, h => by
    simp only [ckE] at h
    split at h
    · refine (pe_cmp (pc_isN (sndE _ a X Wx g _ h)) rfl).weak fun σ H Q ⟨F, β, Γ, S, s, en, q⟩ => ?_
      refine runE (call_mono T k) s en q (fun _ _ q => q) fun F1 β1 S1 H1 v x e1 s1 r1 q1 => ?_
      rw [isNon_ok r1]
      exact post_here (v := .bl _) s1 rfl (post_ext e1 q1)
    · cases h
  | c, .notN a, X, Wx, g, e, h => by
    simp only [ckE] at h
    split at h
    · refine (pe_cmp (pc_notN (sndE _ a X Wx g _ h)) rfl).weak fun σ H Q ⟨F, β, Γ, S, s, en, q⟩ => ?_
      refine runE (call_mono T k) s en q (fun _ _ q => q) fun F1 β1 S1 H1 v x e1 s1 r1 q1 => ?_
      rw [isNon_ok r1]
      exact post_here (v := .bl _) s1 rfl (post_ext e1 q1)
    · cases h
  | c, .chain op op' a b d, X, Wx, g, e, h => by
    simp only [ckE] at h
    split at h
    · obtain ⟨h, h6⟩ := ba h
      obtain ⟨h, h5⟩ := ba h
      obtain ⟨h, h4⟩ := ba h
      obtain ⟨h, h3⟩ := ba h
      obtain ⟨h1, h2⟩ := ba h
      obtain ⟨r, ho, hs⟩ := cmp_ok (X := X) (cA := cA) g.u65 h1
      obtain ⟨r', ho', hs'⟩ := cmp_ok (X := X) (cA := cA) g.u65 h2
      refine (pe_chain ho ho' (sndE _ a X Wx g _ h3) (sndE _ b X Wx g _ h4) (sndE _ d X Wx g _ h5) (noSet_mark h6 _)).weak fun σ H Q ⟨F, β, Γ, S, s, en, q⟩ => ?_
      refine runE (call_mono T k) s en q (fun _ _ q => q) fun F1 β1 S1 H1 v x e1 s1 r1 q1 => ?_
      refine runE (call_mono T k) s1 (en.ext e1) q1 (postX_ext e1) fun F2 β2 S2 H2 u y e2 s2 r2 q2 => ?_
      refine hs F2 β2 S2 H2 v u x y _ s2 (r1.ext e2) r2 (wCmp_mono (fun z S3 ⟨kk, ez, z3⟩ => ?_) q2)
      subst ez
      intro F3 β3 H3 zz e3 s3 rz
      cases rz
      refine ⟨kk, rfl, ?_⟩
      cases kk with
      | true =>
        refine runE (call_mono T k) s3 (en.ext (e1.trans (e2.trans e3))) z3 (postX_ext (e1.trans (e2.trans e3))) fun F4 β4 S4 H4 w y4 e4 s4 r4 q4 => ?_
        exact hs' F4 β4 S4 H4 u w y y4 Q s4 (r2.ext (e3.trans e4)) r4 (wCmp_mono (fun _ _ z => post_ext (e1.trans (e2.trans (e3.trans e4))) z) q4)
      | false => exact post_here (v := .bl _) s3 rfl (post_ext (e1.trans (e2.trans e3)) z3)
    · cases h
  | c, .tst t, X, Wx, g, e, h => sndB _ t X Wx g e (by simpa only [ckE] using h)
  | c, .ite t a b, X, Wx, g, e, h => by
    simp only [ckE] at h
    split at h
    · obtain ⟨h, h3⟩ := ba h
      obtain ⟨h1, h2⟩ := ba h
      refine (pe_ifExp (sndT _ t X Wx g _ h1) (sndE _ a X Wx g _ h2) (sndE _ b X Wx g _ h3)).weak fun σ H Q ⟨F, β, Γ, S, s, en, q⟩ => ?_
      refine runT (call_mono T k) s en q (fun _ _ q => q) fun F1 β1 S1 H1 v e1 s1 q1 => ?_
      cases v with
      | true => exact runE (call_mono T k) s1 (en.ext e1) q1 (postX_ext e1) fun F2 β2 S2 H2 u y e2 s2 r2 q2 => post_here s2 r2 (post_ext (e1.trans e2) q2)
      | false => exact runE (call_mono T k) s1 (en.ext e1) q1 (postX_ext e1) fun F2 β2 S2 H2 u y e2 s2 r2 q2 => post_here s2 r2 (post_ext (e1.trans e2) q2)
    · cases h
  | c, .call f es, X, Wx, g, e, h => by
    simp only [ckE] at h
    split at h
    · rename_i x p e1 es' pos
      obtain ⟨h, h4⟩ := ba h
      obtain ⟨h, h3⟩ := ba h
      obtain ⟨h1, h2⟩ := ba h
      have hx := of_decide_eq_true h1
      subst hx
      have hst : noStar e1 = true ∧ (backTo pos (starEach es' X.env)).any (·.1) = false := by
        cases es with
        | nil => simp only [ckL] at h3; cases h3
        | cons m ms =>
          simp only [ckL] at h3
          obtain ⟨h3, h5⟩ := ba h3
          exact ⟨(ba h3).2, any_star ms _ _ _ h5⟩
      obtain ⟨d, a, fd, hd, hm, hk, hb, hF⟩ := g.fn x (by simpa using h4)
      refine (pe_callS (E := WE Wx) hF g.room (g.gl _ h2) hm hk hb (fun σ => passAt g.tk σ) (sndL _ es X Wx g _ h3) (by have := (ba (ba h2).1).2; simpa using this) (star_cons hst.1 _ _) hst.2).weak fun σ H Q ⟨F, β, Γ, S, s, en, q⟩ => ?_
      refine runL (call_mono T k) s en q (fun _ _ q => q) fun F1 β1 S1 H1 vs xs e1 s1 r1 q1 => ?_
      exact ⟨F1, β1, S1, vs, s1, r1, call_mono T k _ _ _ _ _ _ _ (fun _ _ z => post_ext e1 z) (fun c' S' z => postX_ext e1 c' S' z) q1⟩
    · cases h
  | c, .len a, X, Wx, g, e, h => by
    simp only [ckE] at h
    split at h
    · obtain ⟨h, h4⟩ := ba h
      obtain ⟨h, h3⟩ := ba h
      obtain ⟨h1, h2⟩ := ba h
      have hx := of_decide_eq_true h1
      subst hx
      refine (pe_callB call_len (g.gl _ h2) (g.blt _ (by decide)) boot_len (pa_cons (sndE _ a X Wx g _ h3) pa_nil (star_cons h4 _ _)) (he := star_cons h4 _ _)).weak fun σ H Q ⟨F, β, Γ, S, s, en, q⟩ => ?_
      refine runE (call_mono T k) s en q (fun _ _ q => q) fun F1 β1 S1 H1 v x e1 s1 r1 q1 => ?_
      obtain ⟨n, l, q2⟩ := len_ok s1 r1 (wLen_mono (fun _ _ z => post_ext e1 z) q1)
      exact ⟨x, n, rfl, l, q2⟩
    · cases h
  | c, .abs a, X, Wx, g, e, h => by
    simp only [ckE] at h
    split at h
    · obtain ⟨h, h4⟩ := ba h
      obtain ⟨h, h3⟩ := ba h
      obtain ⟨h1, h2⟩ := ba h
      have hx := of_decide_eq_true h1
      subst hx
      refine (pe_callB call_abs (g.gl _ h2) (g.blt _ (by decide)) (by decide +kernel) (pa_cons (sndE _ a X Wx g _ h3) pa_nil (star_cons h4 _ _)) (he := star_cons h4 _ _)).weak fun σ H Q ⟨F, β, Γ, S, s, en, q⟩ => ?_
      refine runE (call_mono T k) s en q (fun _ _ q => q) fun F1 β1 S1 H1 v x e1 s1 r1 q1 => ?_
      obtain ⟨i, rfl, q2⟩ := abs_ok s1 r1 (wAbs_mono (fun _ _ z => post_ext e1 z) q1)
      exact ⟨i, rfl, q2⟩
    · cases h
  | c, .isi a t, X, Wx, g, e, h => by
    simp only [ckE] at h
    split at h
    · obtain ⟨h, h6⟩ := ba h
      obtain ⟨h, h5⟩ := ba h
      obtain ⟨h, h4⟩ := ba h
      obtain ⟨h, h3⟩ := ba h
      obtain ⟨h1, h2⟩ := ba h
      have hx := of_decide_eq_true h1
      have hy := of_decide_eq_true h3
      subst hx hy
      have hty : ∀ p, PE X (.Name (tyN t) p) (tC (.ty (tyS t))) := fun p => pe_bltn (v := .ty (tyS t)) (u := .type (tyS t)) (g.gl _ h4) (g.blt _ (by cases t <;> decide)) (by cases t <;> decide +kernel) rfl (by cases t <;> decide) (by cases t <;> decide)
      refine (pe_callB call_isi (g.gl _ h2) (g.blt _ (by decide)) (by decide +kernel) (pa_cons (sndE _ a X Wx g _ h5) (pa_cons (hty _) pa_nil rfl) (star_cons h6 _ _)) (he := star_cons h6 _ _)).weak fun σ H Q ⟨F, β, Γ, S, s, en, q⟩ => ?_
      refine runE (call_mono T k) s en q (fun _ _ q => q) fun F1 β1 S1 H1 v x e1 s1 r1 ⟨b, q1, q2⟩ => ?_
      obtain ⟨tv, t1, t2⟩ := ty_ok s1 r1 q1
      exact ⟨x, _, tv, _, b, rfl, .ty _, t1, t2, post_here (v := .bl _) s1 rfl (post_ext e1 q2)⟩
    · cases h
  | c, .sub a i, X, Wx, g, e, h => by
    simp only [ckE] at h
    split at h
    · obtain ⟨h, h3⟩ := ba h
      obtain ⟨h1, h2⟩ := ba h
      refine (pe_ix ((ix_list.or ix_tup).or ix_str) (sndE _ a X Wx g _ h1) (sndE _ i X Wx g _ h2) (noSlice_ix h3)).weak fun σ H Q ⟨F, β, Γ, S, s, en, q⟩ => ?_
      refine runE (call_mono T k) s en q (fun _ _ q => q) fun F1 β1 S1 H1 v x e1 s1 r1 q1 => ?_
      refine runE (call_mono T k) s1 (en.ext e1) q1 (postX_ext e1) fun F2 β2 S2 H2 u y e2 s2 r2 q2 => ?_
      exact sub_ok F2 β2 S2 H2 v u x y Q s2 (r1.ext e2) r2 (wSub_mono (fun _ _ z => post_ext (e1.trans e2) z) q2)
    · cases h
  | c, .slice a lo hi, X, Wx, g, e, h => by
    simp only [ckE] at h
    split at h
    · obtain ⟨h, h3⟩ := ba h
      obtain ⟨h1, h2⟩ := ba h
      refine (pe_slice ((sl_list.or sl_tup).or sl_str) (sndE _ a X Wx g _ h1) (sndOe _ lo X Wx g _ h2) (sndOe _ hi X Wx g _ h3)).weak fun σ H Q ⟨F, β, Γ, S, s, en, q⟩ => ?_
      refine runE (call_mono T k) s en q (fun _ _ q => q) fun F1 β1 S1 H1 v x e1 s1 r1 q1 => ?_
      refine runO (call_mono T k) s1 (en.ext e1) q1 (postX_ext e1) fun F2 β2 S2 H2 l e2 s2 q2 => ?_
      refine runO (call_mono T k) s2 (en.ext (e1.trans e2)) q2 (postX_ext (e1.trans e2)) fun F3 β3 S3 H3 u e3 s3 q3 => ?_
      exact slice_ok s3 (r1.ext (e2.trans e3)) (wSlice_mono (fun _ _ z => post_ext (e1.trans (e2.trans e3)) z) q3)
    · cases h
  | c, .blt f es, X, Wx, g, e, h => by
    simp only [ckE] at h
    split at h
    · rename_i x p e1 es' pos
      obtain ⟨h, h4⟩ := ba h
      obtain ⟨h, h3⟩ := ba h
      obtain ⟨h1, h2⟩ := ba h
      have hx := of_decide_eq_true h1
      subst hx
      have hst := ckL_first es e1 es' pos X.env h3
      obtain ⟨r, hr, hs⟩ := blt_ok (X := X) (cA := cA) g.calm f
      refine (blt_call hr (g.gl _ h2) (g.blt _ (by cases f <;> decide)) (sndL _ es X Wx g _ h3) hst.1 hst.2).weak fun σ H Q ⟨F, β, Γ, S, s, en, q⟩ => ?_
      refine runL (call_mono T k) s en q (fun _ _ q => q) fun F1 β1 S1 H1 vs xs e1 s1 r1 q1 => ?_
      exact hs F1 β1 S1 H1 vs xs Q s1 r1 (wBlt_mono (fun _ _ z => post_ext e1 z) q1)
    · cases h
  | c, .mth m o es, X, Wx, g, e, h => by
    simp only [ckE] at h
    split at h
    · rename_i o' nm apos es' pos
      obtain ⟨h, h6⟩ := ba h
      obtain ⟨h, h5⟩ := ba h
      obtain ⟨h, h4⟩ := ba h
      obtain ⟨h, h3⟩ := ba h
      obtain ⟨h1, h2⟩ := ba h
      have hx := of_decide_eq_true h1
      subst hx
      obtain ⟨r, hr, hs⟩ := mth_ok (X := X) (cA := cA) g.u65 m
      cases es' with
      | nil =>
        refine (mth_call0 hr (sndE _ o X Wx g _ h2) h5 h4 (of_decide_eq_true h6).symm).weak fun σ H Q ⟨F, β, Γ, S, s, en, q⟩ => ?_
        refine runE (call_mono T k) s en q (fun _ _ q => q) fun F1 β1 S1 H1 v x e1 s1 r1 ⟨z, q1⟩ => ?_
        cases es with
        | nil => exact ⟨mOk_ty s1 r1 z, hs F1 β1 S1 H1 v x [] [] Q s1 r1 rfl (wMth_mono (fun _ _ z => post_ext e1 z) q1)⟩
        | cons _ _ => simp only [ckL] at h3; cases h3
      | cons e0 es' =>
        have hst := ckL_first es e0 es' pos X.env h3
        refine (mth_call hr (sndE _ o X Wx g _ h2) (sndL _ es X Wx g _ h3) h5 h4 (of_decide_eq_true h6) (any_star es _ _ _ h3) hst.1 hst.2).weak fun σ H Q ⟨F, β, Γ, S, s, en, q⟩ => ?_
        refine runE (call_mono T k) s en q (fun _ _ q => q) fun F1 β1 S1 H1 v x e1 s1 r1 ⟨z, q1⟩ => ?_
        refine ⟨mOk_ty s1 r1 z, ?_⟩
        refine runL (call_mono T k) s1 (en.ext e1) q1 (postX_ext e1) fun F2 β2 S2 H2 vs xs e2 s2 r2 q2 => ?_
        exact hs F2 β2 S2 H2 v x vs xs Q s2 (r1.ext e2) r2 (wMth_mono (fun _ _ z => post_ext (e1.trans e2) z) q2)
    · cases h
  | c, .comp own elt tg it cond, X, Wx, g, e, h => by
    simp only [ckE] at h
    split at h
    · rename_i elt' tg' it' ifs scope pos
      obtain ⟨h, h6⟩ := ba h
      obtain ⟨h, h5⟩ := ba h
      obtain ⟨h, h4⟩ := ba h
      obtain ⟨h, h3⟩ := ba h
      obtain ⟨h1, h2⟩ := ba h
      have hblk : BlkOk X.N X.env.scope scope (ownA c.N own) := by
        rw [g.hN, g.sc]; exact blkOk_by h1
      refine (pe_lc (g := liftG X.K cA (tgS tg) fun S v Γ => bindT S tg v Γ) (tt := liftT X.K cA (fun _ _ _ _ => False) (fun Γ S P _ => WT0 (call T k) cond Γ S P)) (te := liftE X.K cA (fun _ _ _ _ => False) (W (call T k) elt)) g.calm g.nd (sndI _ it X Wx g _ _ h2) hblk (fun s H C cl fp => sndG tg _ (g.inn hblk.kind s H C cl fp).hN g.nd (g.inn hblk.kind s H C cl fp).loc g.calm _ h3)
        (fun s H C cl fp => sndT0 _ cond _ _ (g.inn hblk.kind s H C cl fp) _ h5) (fun s H C cl fp => sndE _ elt _ _ (g.inn hblk.kind s H C cl fp) _ h6) (ckI_fold h2 X.env)).weak fun σ H Q ⟨F, β, Γ, S, s, en, q⟩ => ?_
      refine runI (call_mono T k) s en q (fun _ _ q => q) fun F1 β1 S1 H1 J xs G e1 s1 i1 q1 => ?_
      rw [ownA_ix]
      exact comp_ok (call_mono T k) e1 s1 (en.ext e1) i1 q1 (fun i hi => by have := List.all_eq_true.mp h4 i hi; simpa using this)
    · cases h
theorem sndOe : ∀ (c : Ctx) (m : Oe) (X : Cx) (Wx : WX), Gd c cA T k Wx X → ∀ (e : Option Expr), ckO c m e = true → PO X e (liftO X.K cA Wx (WOe (call T k) m))
  | c, .none, X, Wx, g, e, h => by
    simp only [ckO] at h
    split at h
    · exact po_none.weak fun σ H Q ⟨F, β, Γ, S, s, en, q⟩ => q F β H (Ext.refl _ _) s
    · cases h
  | c, .some m, X, Wx, g, e, h => by
    simp only [ckO] at h
    split at h
    · refine (po_some (sndE _ m X Wx g _ h)).weak fun σ H Q ⟨F, β, Γ, S, s, en, q⟩ => ?_
      refine runE (call_mono T k) s en q (fun _ _ q => q) fun F1 β1 S1 H1 v x e1 s1 r1 ⟨i, ev, q1⟩ => ?_
      subst ev
      cases r1
      exact ⟨i, rfl, q1 F1 β1 H1 e1 s1⟩
    · cases h
theorem sndI : ∀ (c : Ctx) (m : It) (X : Cx) (Wx : WX), Gd c cA T k Wx X → ∀ (tg e : Expr), ckI c m tg e = true → PI X tg e (liftI X.K cA Wx (WI (call T k) m))
  | c, .seq m, X, Wx, g, tg, e, h => by
    simp only [ckI] at h
    obtain ⟨h1, h2⟩ := ba h
    refine (pi_seqA (sndE _ m X Wx g _ h1)).weak fun σ H Q ⟨F, β, Γ, S, s, en, q⟩ => ?_
    refine runE (call_mono T k) s en q (fun _ _ q => q) fun F1 β1 S1 H1 v x e1 s1 r1 q1 => ?_
    obtain ⟨xs, G, hh, p⟩ := wSeq_ok s1 r1 q1
    rcases hh with ⟨a, ys, z1, z2, z3⟩ | ⟨a, ys, z1, z2, z3⟩ | ⟨a, z1, z3⟩
    · exact .inl ⟨a, ys, z1, z2, p F1 β1 H1 _ e1 s1 z3⟩
    · exact .inr (.inl ⟨a, ys, z1, z2, p F1 β1 H1 _ e1 s1 z3⟩)
    · exact .inr (.inr ⟨a, z1, p F1 β1 H1 _ e1 s1 z3⟩)
  | c, .range1 m, X, Wx, g, tg, e, h => by
    simp only [ckI] at h
    split at h
    · obtain ⟨h, h4⟩ := ba h
      obtain ⟨h, h3⟩ := ba h
      obtain ⟨h1, h2⟩ := ba h
      have hx := of_decide_eq_true h1
      subst hx
      refine (pi_range1 (g.gl _ h2) (g.blt _ (by decide)) (pa_cons (sndE _ m X Wx g _ h3) pa_nil (star_cons h4 _ _)) (star_cons h4 _ _)).weak fun σ H Q ⟨F, β, Γ, S, s, en, q⟩ => ?_
      refine runE (call_mono T k) s en q (fun _ _ q => q) fun F1 β1 S1 H1 v x e1 s1 r1 ⟨i, ev, l1, l2, q1⟩ => ?_
      subst ev
      cases r1
      exact ⟨i, rfl, l1, l2, q1 F1 β1 H1 _ e1 s1 itok_r⟩
    · cases h
  | c, .range2 m n, X, Wx, g, tg, e, h => by
    simp only [ckI] at h
    split at h
    · obtain ⟨h, h6⟩ := ba h
      obtain ⟨h, h5⟩ := ba h
      obtain ⟨h, h4⟩ := ba h
      obtain ⟨h, h3⟩ := ba h
      obtain ⟨h1, h2⟩ := ba h
      have hx := of_decide_eq_true h1
      subst hx
      refine (pi_range2 (g.gl _ h2) (g.blt _ (by decide)) (pa_cons (sndE _ m X Wx g _ h3) (pa_cons (sndE _ n X Wx g _ h5) pa_nil (star_cons h6 _ _)) (star_cons h4 _ _)) (by rw [star_cons h4, star_cons h6]; rfl) (star_cons h6 _ _)).weak fun σ H Q ⟨F, β, Γ, S, s, en, q⟩ => ?_
      refine runE (call_mono T k) s en q (fun _ _ q => q) fun F1 β1 S1 H1 v x e1 s1 r1 q1 => ?_
      refine runE (call_mono T k) s1 (en.ext e1) q1 (postX_ext e1) fun F2 β2 S2 H2 u y e2 s2 r2 ⟨i, ev, j, eu, l1, q2⟩ => ?_
      subst ev eu
      cases r1
      cases r2
      exact ⟨i, j, rfl, l1, q2 F2 β2 H2 _ (e1.trans e2) s2 itok_r⟩
    · cases h
  | c, .enum m, X, Wx, g, tg, e, h => by
    simp only [ckI] at h
    split at h
    · obtain ⟨h, h4⟩ := ba h
      obtain ⟨h, h3⟩ := ba h
      obtain ⟨h1, h2⟩ := ba h
      have hx := of_decide_eq_true h1
      subst hx
      refine (pi_enum (g.gl _ h2) (g.blt _ (by decide)) (pa_cons (sndE _ m X Wx g _ h3) pa_nil (star_cons h4 _ _)) (star_cons h4 _ _)).weak fun σ H Q ⟨F, β, Γ, S, s, en, q⟩ => ?_
      refine runE (call_mono T k) s en q (fun _ _ q => q) fun F1 β1 S1 H1 v x e1 s1 r1 q1 => ?_
      obtain ⟨a, ys, xs, G, ev, z1, z2, z3, p⟩ := wLst_ok s1 r1 q1
      subst ev
      exact ⟨a, ys, rfl, z1, p F1 β1 H1 _ e1 s1 (itok_e z3 ys z2)⟩
    · cases h
  | c, .zip m n, X, Wx, g, tg, e, h => by
    simp only [ckI] at h
    split at h
    · obtain ⟨h, h6⟩ := ba h
      obtain ⟨h, h5⟩ := ba h
      obtain ⟨h, h4⟩ := ba h
      obtain ⟨h, h3⟩ := ba h
      obtain ⟨h1, h2⟩ := ba h
      have hx := of_decide_eq_true h1
      subst hx
      refine (pi_zip (g.gl _ h2) (g.blt _ (by decide)) (pa_cons (sndE _ m X Wx g _ h3) (pa_cons (sndE _ n X Wx g _ h5) pa_nil (star_cons h6 _ _)) (star_cons h4 _ _)) (star_cons h4 _ _) (by rw [star_cons h6]; rfl)).weak fun σ H Q ⟨F, β, Γ, S, s, en, q⟩ => ?_
      refine runE (call_mono T k) s en q (fun _ _ q => q) fun F1 β1 S1 H1 v x e1 s1 r1 q1 => ?_
      refine runE (call_mono T k) s1 (en.ext e1) q1 (postX_ext e1) fun F2 β2 S2 H2 u y e2 s2 r2 q2 => ?_
      obtain ⟨a, ys, xs, G, ev, z1, z2, z3, q3⟩ := wLst_ok s2 (r1.ext e2) q2
      obtain ⟨b, ys', xs', G', eu, z4, z5, z6, p⟩ := wLst_ok s2 r2 q3
      subst ev eu
      exact ⟨a, b, ys, ys', rfl, z1, z4, p F2 β2 H2 _ (e1.trans e2) s2 (itok_z z3 ys z2 z6 ys' z5)⟩
    · cases h
  | c, .rev m, X, Wx, g, tg, e, h => by
    simp only [ckI] at h
    split at h
    · obtain ⟨h, h4⟩ := ba h
      obtain ⟨h, h3⟩ := ba h
      obtain ⟨h1, h2⟩ := ba h
      have hx := of_decide_eq_true h1
      subst hx
      refine (pi_reversed (g.gl _ h2) (g.blt _ (by decide)) (pa_cons (sndE _ m X Wx g _ h3) pa_nil (star_cons h4 _ _)) (star_cons h4 _ _)).weak fun σ H Q ⟨F, β, Γ, S, s, en, q⟩ => ?_
      refine runE (call_mono T k) s en q (fun _ _ q => q) fun F1 β1 S1 H1 v x e1 s1 r1 q1 => ?_
      obtain ⟨a, ys, xs, G, ev, z1, z2, z3, p⟩ := wLst_ok s1 r1 q1
      subst ev
      exact ⟨a, ys, rfl, z1, p F1 β1 H1 _ e1 s1 (itok_v z3 ys z2)⟩
    · cases h
theorem sndT0 : ∀ (c : Ctx) (m : Tes0) (X : Cx) (Wx : WX), Gd c cA T k Wx X → ∀ (e : List Expr), ckT0 c m e = true → PTs X e (liftT X.K cA Wx (fun Γ S P _ => WT0 (call T k) m Γ S P))
  | c, .none, X, Wx, g, e, h => by
    simp only [ckT0] at h
    split at h
    · exact pts_nil.weak fun σ H Q ⟨F, β, Γ, S, s, en, q⟩ => q F β H (Ext.refl _ _) s
    · cases h
  | c, .some t, X, Wx, g, e, h => by
    simp only [ckT0] at h
    split at h
    · exact (pts_one (sndT _ t X Wx g _ h)).weak fun σ H Q ⟨F, β, Γ, S, s, en, q⟩ => ⟨F, β, Γ, S, s, en, WT_mono (call_mono T k) t _ _ _ _ _ _ (fun _ _ z => z) (fun _ _ z => z.elim) q⟩
    · cases h
theorem sndT : ∀ (c : Ctx) (m : Te) (X : Cx) (Wx : WX), Gd c cA T k Wx X → ∀ (e : Expr), ckT c m e = true → PT X e (liftT X.K cA Wx (WT (call T k) m))
  | c, .val m, X, Wx, g, e, h => by
    simp only [ckT] at h
    obtain ⟨h1, h2⟩ := ba h
    by_cases hp : plainT e = true
    · refine (pt_truth (sndE _ m X Wx g _ h1) (fun whole => plainT_he hp _ _)).weak fun σ H Q ⟨F, β, Γ, S, s, en, q⟩ => ?_
      refine runE (call_mono T k) s en q (fun _ _ q => q) fun F1 β1 S1 H1 v x e1 s1 r1 ⟨b, q1, q2⟩ => ?_
      exact ⟨b, tru_ok2 s1 r1 q1, q2 F1 β1 H1 e1 s1⟩
    · have hc : isCmp m = true := by
        rcases Bool.or_eq_true_iff.mp h2 with z | z
        · exact absurd z hp
        · exact z
      match m, hc with
      | .cmp op a b, _ =>
        simp only [ckE] at h1
        split at h1
        · obtain ⟨h, h4⟩ := ba h1
          obtain ⟨h, h3⟩ := ba h
          obtain ⟨h1, h2⟩ := ba h
          obtain ⟨r, ho, hs⟩ := cmp_ok (X := X) (cA := cA) g.u65 h1
          refine (pt_cmpR ho (sndE _ a X Wx g _ h2) (sndE _ b X Wx g _ h3) (noSet_mark h4 _)).weak fun σ H Q ⟨F, β, Γ, S, s, en, q⟩ => ?_
          refine runE (call_mono T k) s en q (fun _ _ q => q) fun F1 β1 S1 H1 v x e1 s1 r1 q1 => ?_
          refine runE (call_mono T k) s1 (en.ext e1) q1 (postX_ext e1) fun F2 β2 S2 H2 u y e2 s2 r2 q2 => ?_
          refine hs F2 β2 S2 H2 v u x y _ s2 (r1.ext e2) r2 (wCmp_mono (fun z S3 ⟨⟨b, ez⟩, b', eb, z3⟩ => ?_) (wCmp_bl q2))
          subst ez
          cases eb
          intro F3 β3 H3 zz e3 s3 rz
          cases rz
          exact ⟨_, rfl, z3 F3 β3 H3 (e1.trans (e2.trans e3)) s3⟩
        · cases h1
      | .isN a, _ =>
        simp only [ckE] at h1
        split at h1
        · refine (pt_cmp (pc_isN (sndE _ a X Wx g _ h1)) rfl).weak fun σ H Q ⟨F, β, Γ, S, s, en, q⟩ => ?_
          refine runE (call_mono T k) s en q (fun _ _ q => q) fun F1 β1 S1 H1 v x e1 s1 r1 ⟨b, eb, q1⟩ => ?_
          cases eb
          rw [isNon_ok r1]
          exact ⟨_, rfl, q1 F1 β1 H1 e1 s1⟩
        · cases h1
      | .notN a, _ =>
        simp only [ckE] at h1
        split at h1
        · refine (pt_cmp (pc_notN (sndE _ a X Wx g _ h1)) rfl).weak fun σ H Q ⟨F, β, Γ, S, s, en, q⟩ => ?_
          refine runE (call_mono T k) s en q (fun _ _ q => q) fun F1 β1 S1 H1 v x e1 s1 r1 ⟨b, eb, q1⟩ => ?_
          cases eb
          rw [isNon_ok r1]
          exact ⟨_, rfl, q1 F1 β1 H1 e1 s1⟩
        · cases h1
      | .chain op op' a b d, _ =>
        simp only [ckE] at h1
        split at h1
        · obtain ⟨h, h6⟩ := ba h1
          obtain ⟨h, h5⟩ := ba h
          obtain ⟨h, h4⟩ := ba h
          obtain ⟨h, h3⟩ := ba h
          obtain ⟨h1, h2⟩ := ba h
          obtain ⟨r, ho, hs⟩ := cmp_ok (X := X) (cA := cA) g.u65 h1
          obtain ⟨r', ho', hs'⟩ := cmp_ok (X := X) (cA := cA) g.u65 h2
          refine (pt_chain ho ho' (sndE _ a X Wx g _ h3) (sndE _ b X Wx g _ h4) (sndE _ d X Wx g _ h5) (noSet_mark h6 _)).weak fun σ H Q ⟨F, β, Γ, S, s, en, q⟩ => ?_
          refine runE (call_mono T k) s en q (fun _ _ q => q) fun F1 β1 S1 H1 v x e1 s1 r1 q1 => ?_
          refine runE (call_mono T k) s1 (en.ext e1) q1 (postX_ext e1) fun F2 β2 S2 H2 u y e2 s2 r2 q2 => ?_
          refine hs F2 β2 S2 H2 v u x y _ s2 (r1.ext e2) r2 (wCmp_mono (fun z S3 ⟨kk, ez, z3⟩ => ?_) q2)
          subst ez
          intro F3 β3 H3 zz e3 s3 rz
          cases rz
          refine ⟨kk, rfl, ?_⟩
          cases kk with
          | true =>
            refine runE (call_mono T k) s3 (en.ext (e1.trans (e2.trans e3))) z3 (postX_ext (e1.trans (e2.trans e3))) fun F4 β4 S4 H4 w y4 e4 s4 r4 q4 => ?_
            refine hs' F4 β4 S4 H4 u w y y4 _ s4 (r2.ext (e3.trans e4)) r4 (wCmp_mono (fun z S3 ⟨⟨b, ez⟩, b', eb, z3⟩ => ?_) (wCmp_bl q4))
            subst ez
            cases eb
            intro F5 β5 H5 zz e5 s5 rz
            cases rz
            exact ⟨_, rfl, z3 F5 β5 H5 (e1.trans (e2.trans (e3.trans (e4.trans e5)))) s5⟩
          | false =>
            obtain ⟨b', eb, z3⟩ := z3
            cases eb
            exact ⟨_, rfl, z3 F3 β3 H3 (e1.trans (e2.trans e3)) s3⟩
        · cases h1
  | c, .not t, X, Wx, g, e, h => by
    simp only [ckT] at h
    split at h
    · refine (pt_not (sndT _ t X Wx g _ h)).weak fun σ H Q ⟨F, β, Γ, S, s, en, q⟩ => ?_
      exact runT (call_mono T k) s en q (fun _ _ q => q) fun F1 β1 S1 H1 v e1 s1 q1 => q1 F1 β1 H1 e1 s1
    · cases h
  | c, .and ts, X, Wx, g, e, h => by
    simp only [ckT] at h
    split at h
    · exact (sndA _ ts X Wx g _ _ h).pt.weak fun σ H Q q => q
    · cases h
  | c, .or ts, X, Wx, g, e, h => by
    simp only [ckT] at h
    split at h
    · exact (sndO _ ts X Wx g _ _ h).pt.weak fun σ H Q q => q
    · cases h
theorem sndA : ∀ (c : Ctx) (m : Tes) (X : Cx) (Wx : WX), Gd c cA T k Wx X → ∀ (es : List Expr) (pos : Pos), ckTs c m es = true → PW X (.BoolOp .And es pos) (liftT X.K cA Wx (WA (call T k) m))
  | c, .one t, X, Wx, g, es, pos, h => by
    simp only [ckTs] at h
    split at h
    · exact (pw_and1 (sndT _ t X Wx g _ h)).weak fun σ H Q q => q
    · cases h
  | c, .cons t ts, X, Wx, g, es, pos, h => by
    simp only [ckTs] at h
    split at h
    · obtain ⟨h1, h2⟩ := ba h
      refine (pw_and (sndT _ t X Wx g _ h1) (sndA _ ts X Wx g _ pos h2)).weak fun σ H Q ⟨F, β, Γ, S, s, en, q⟩ => ?_
      refine runT (call_mono T k) s en q (fun _ _ q => q) fun F1 β1 S1 H1 v e1 s1 q1 => ?_
      cases v with
      | true => exact ⟨F1, β1, Γ, S1, s1, en.ext e1, WA_mono (call_mono T k) ts _ _ _ _ _ _ (fun b S2 z F2 β2 H2 e2 s2 => z F2 β2 H2 (e1.trans e2) s2) (postX_ext e1) q1⟩
      | false => exact q1 F1 β1 H1 e1 s1
    · cases h
theorem sndO : ∀ (c : Ctx) (m : Tes) (X : Cx) (Wx : WX), Gd c cA T k Wx X → ∀ (es : List Expr) (pos : Pos), ckTs c m es = true → PW X (.BoolOp .Or es pos) (liftT X.K cA Wx (WO (call T k) m))
  | c, .one t, X, Wx, g, es, pos, h => by
    simp only [ckTs] at h
    split at h
    · exact (pw_or1 (sndT _ t X Wx g _ h)).weak fun σ H Q q => q
    · cases h
  | c, .cons t ts, X, Wx, g, es, pos, h => by
    simp only [ckTs] at h
    split at h
    · obtain ⟨h1, h2⟩ := ba h
      refine (pw_or (sndT _ t X Wx g _ h1) (sndO _ ts X Wx g _ pos h2)).weak fun σ H Q ⟨F, β, Γ, S, s, en, q⟩ => ?_
      refine runT (call_mono T k) s en q (fun _ _ q => q) fun F1 β1 S1 H1 v e1 s1 q1 => ?_
      cases v with
      | false => exact ⟨F1, β1, Γ, S1, s1, en.ext e1, WO_mono (call_mono T k) ts _ _ _ _ _ _ (fun b S2 z F2 β2 H2 e2 s2 => z F2 β2 H2 (e1.trans e2) s2) (postX_ext e1) q1⟩
      | true => exact q1 F1 β1 H1 e1 s1
    · cases h
theorem sndB : ∀ (c : Ctx) (m : Te) (X : Cx) (Wx : WX), Gd c cA T k Wx X → ∀ (e : Expr), ckT c m e = true → PE X e (liftE X.K cA Wx (WB (call T k) m))
  | c, .val m, X, Wx, g, e, h => by
    simp only [ckT] at h
    exact (sndE _ m X Wx g e (ba h).1).weak fun σ H Q q => q
  | c, .not t, X, Wx, g, e, h => by
    simp only [ckT] at h
    split at h
    · refine (pe_not (sndB _ t X Wx g _ h)).weak fun σ H Q ⟨F, β, Γ, S, s, en, q⟩ => ?_
      refine runB (call_mono T k) s en q (fun _ _ q => q) fun F1 β1 S1 H1 v x e1 s1 r1 ⟨b, eb, q1⟩ => ?_
      subst eb
      cases r1
      exact ⟨b, rfl, post_here (v := .bl _) s1 rfl (post_ext e1 q1)⟩
    · cases h
  | c, .and ts, X, Wx, g, e, h => by
    simp only [ckT] at h
    split at h
    · exact (sndBA _ ts X Wx g _ _ h).weak fun σ H Q q => q
    · cases h
  | c, .or ts, X, Wx, g, e, h => by
    simp only [ckT] at h
    split at h
    · exact (sndBO _ ts X Wx g _ _ h).weak fun σ H Q q => q
    · cases h
theorem sndBA : ∀ (c : Ctx) (m : Tes) (X : Cx) (Wx : WX), Gd c cA T k Wx X → ∀ (es : List Expr) (pos : Pos), ckTs c m es = true → PE X (.BoolOp .And es pos) (liftE X.K cA Wx (WBA (call T k) m))
  | c, .one t, X, Wx, g, es, pos, h => by
    simp only [ckTs] at h
    split at h
    · exact (pe_one (sndB _ t X Wx g _ h)).weak fun σ H Q q => q
    · cases h
  | c, .cons t ts, X, Wx, g, es, pos, h => by
    simp only [ckTs] at h
    split at h
    · obtain ⟨h1, h2⟩ := ba h
      refine (pe_and (sndB _ t X Wx g _ h1) (sndBA _ ts X Wx g _ pos h2)).weak fun σ H Q ⟨F, β, Γ, S, s, en, q⟩ => ?_
      refine runB (call_mono T k) s en q (fun _ _ q => q) fun F1 β1 S1 H1 v x e1 s1 r1 ⟨b, eb, q1⟩ => ?_
      subst eb
      cases r1
      refine ⟨b, rfl, ?_⟩
      cases b with
      | true => exact ⟨F1, β1, Γ, S1, s1, en.ext e1, WBA_mono (call_mono T k) ts _ _ _ _ _ _ (fun b S2 z => post_ext e1 z) (postX_ext e1) q1⟩
      | false => exact post_here (v := .bl _) s1 rfl (post_ext e1 q1)
    · cases h
theorem sndBO : ∀ (c : Ctx) (m : Tes) (X : Cx) (Wx : WX), Gd c cA T k Wx X → ∀ (es : List Expr) (pos : Pos), ckTs c m es = true → PE X (.BoolOp .Or es pos) (liftE X.K cA Wx (WBO (call T k) m))
  | c, .one t, X, Wx, g, es, pos, h => by
    simp only [ckTs] at h
    split at h
    · exact (pe_one (sndB _ t X Wx g _ h)).weak fun σ H Q q => q
    · cases h
  | c, .cons t ts, X, Wx, g, es, pos, h => by
    simp only [ckTs] at h
    split at h
    · obtain ⟨h1, h2⟩ := ba h
      refine (pe_or (sndB _ t X Wx g _ h1) (sndBO _ ts X Wx g _ pos h2)).weak fun σ H Q ⟨F, β, Γ, S, s, en, q⟩ => ?_
      refine runB (call_mono T k) s en q (fun _ _ q => q) fun F1 β1 S1 H1 v x e1 s1 r1 ⟨b, eb, q1⟩ => ?_
      subst eb
      cases r1
      refine ⟨b, rfl, ?_⟩
      cases b with
      | false => exact ⟨F1, β1, Γ, S1, s1, en.ext e1, WBO_mono (call_mono T k) ts _ _ _ _ _ _ (fun b S2 z => post_ext e1 z) (postX_ext e1) q1⟩
      | true => exact post_here (v := .bl _) s1 rfl (post_ext e1 q1)
    · cases h
theorem sndL : ∀ (c : Ctx) (m : Exs) (X : Cx) (Wx : WX), Gd c cA T k Wx X → ∀ (e : List Expr), ckL c m e = true → PA X e (liftL X.K cA Wx (WL (call T k) m))
  | c, .nil, X, Wx, g, e, h => by
    simp only [ckL] at h
    split at h
    · exact pa_nil.weak fun σ H Q ⟨F, β, Γ, S, s, en, q⟩ => q F β H [] (Ext.refl _ _) s rfl
    · cases h
  | c, .cons m ms, X, Wx, g, e, h => by
    simp only [ckL] at h
    split at h
    · obtain ⟨h, h3⟩ := ba h
      obtain ⟨h1, h2⟩ := ba h
      refine (pa_cons (sndE _ m X Wx g _ h1) (sndL _ ms X Wx g _ h3) (star_cons h2 _ _)).weak fun σ H Q ⟨F, β, Γ, S, s, en, q⟩ => ?_
      refine runE (call_mono T k) s en q (fun _ _ q => q) fun F1 β1 S1 H1 v x e1 s1 r1 q1 => ?_
      refine runL (call_mono T k) s1 (en.ext e1) q1 (postX_ext e1) fun F2 β2 S2 H2 vs xs e2 s2 r2 q2 => ?_
      exact q2 F2 β2 H2 (x :: xs) (e1.trans e2) s2 ⟨x, xs, rfl, r1.ext e2, r2⟩
    · cases h
end
end
end AM
end

section
set_option linter.all false
set_option maxRecDepth 100000
set_option maxHeartbeats 4000000
/-! AM, seventh part: statements; a store cut; calls. -/
namespace AM
open PySem L2

theorem _root_.L2.PS.weak {X : Cx} {e : Stmt} {t t' : TS} (h : PS X e t) (w : ∀ D σ H, t' D σ H → t D σ H) : PS X e t' := ⟨fun pins s σ H D I q => h.run pins s σ H D I (w _ _ _ q)⟩
theorem _root_.L2.PSs.weak {X : Cx} {e : List Stmt} {t t' : TS} (h : PSs X e t) (w : ∀ D σ H, t' D σ H → t D σ H) : PSs X e t' := ⟨fun pins s σ H D I q => h.run pins s σ H D I (w _ _ _ q)⟩

section
variable (K : PySem.W.Frag) (cA : Str → Addr)
def postG (F : Hp) (β : List Addr) (N : St → Hp → Prop) : Env → Sto → Prop := fun Γ' S' => ∀ F' β' H' σ', Ext F β F' β' → Sim K cA F' β' S' H' → EnvR K F' β' Γ' σ' → N σ' H'
def ends (Wx : WX) (F : Hp) (β : List Addr) (D : Ends) : AEnds where
  nx := postG K cA F β D.nx
  rt := post K cA F β D.rt
  bk := postG K cA F β D.bk
  ct := postG K cA F β D.ct
  ex := fun c => postG K cA F β fun σ' H' => Wx (.ref (cA c)) none σ' H'
def liftS (Wx : WX) (w : AEnds → Env → Sto → Prop) : TS := fun D σ H => ∃ F β Γ S, Sim K cA F β S H ∧ EnvR K F β Γ σ ∧ w (ends K cA Wx F β D) Γ S
end
section
variable {K : PySem.W.Frag} {cA : Str → Addr} {F F' : Hp} {β β' : List Addr} {Wx : WX}
theorem postG_ext {N : St → Hp → Prop} (e : Ext F β F' β') : ∀ Γ S, postG K cA F β N Γ S → postG K cA F' β' N Γ S := fun Γ S h F2 β2 H2 σ2 e2 s g => h F2 β2 H2 σ2 (e.trans e2) s g
theorem ends_ext {D : Ends} (e : Ext F β F' β') : DMono (ends K cA Wx F β D) (ends K cA Wx F' β' D) :=
  ⟨postG_ext e, fun v S h => post_ext e h, postG_ext e, postG_ext e, fun c => postG_ext e⟩
theorem ex_post {D : Ends} {σ : St} {Γ : Env} (g : EnvR K F β Γ σ) : ∀ (c : Str) (S : Sto), (ends K cA Wx F β D).ex c Γ S → postX K cA F β Wx σ c S := fun c S h F2 β2 H2 e s => h F2 β2 H2 σ e s (g.ext e)
end

theorem noSwap_sw {e : Expr} {x : Str} {p : Pos} {env : PySem.Env} (h : noSwap env.scope x p e = true) (l : Nat) : swapsWith e (some (.Name x p)) l env = pure false := by
  have key : noComp e = true ∨ ∃ elt gs scope pos, e = .ListComp elt gs scope pos := by
    cases e <;> first | exact .inr ⟨_, _, _, _, rfl⟩ | exact .inl h
  rcases key with key | ⟨elt, gs, scope, pos, rfl⟩
  · exact noComp_sw key _ _ _
  unfold noSwap at h
  unfold swapsWith
  simp only []
  have e1 : (env.blockKind == .function && env.kindOf x == some .local && p.line == (Expr.ListComp elt gs scope pos).pos.line && !(scope.names.any fun (n, k) => n == x && (k == .local || k == .cell))) = false := by
    have hk : (env.kindOf x == some .local) = decide (env.scope.names.lookup x = some .local) := by
      show (env.scope.names.lookup x == some .local) = _
      rw [Bool.eq_iff_iff]; simp
    have h2 : (decide (env.scope.names.lookup x = some .local) && (p.line == pos.line) && !(scope.names.any fun (n, k) => n == x && (k == .local || k == .cell))) = false := by
      cases hb : (decide (env.scope.names.lookup x = some .local) && (p.line == pos.line) && !(scope.names.any fun (n, k) => n == x && (k == .local || k == .cell))) with
      | false => rfl
      | true => exact absurd (show (!(decide (env.scope.names.lookup x = some .local) && (p.line == pos.line) && !(scope.names.any fun (n, k) => n == x && (k == .local || k == .cell)))) = true from h) (by rw [hb]; decide)
    rw [hk]
    show (_ && _ && (p.line == pos.line) && _) = false
    rw [Bool.and_assoc, Bool.and_assoc, ← Bool.and_assoc (decide _), h2, Bool.and_false]
  rw [e1]
theorem yesSwap_sw {elt : Expr} {gs : List Comprehension} {scope : Scope} {pos : Pos} {x : Str} {p : Pos} {env : PySem.Env} (hk : env.scope.kind = .function) (h : yesSwap env.scope x p (.ListComp elt gs scope pos) = true) (l : Nat) : env.scope.names.lookup x = some .local ∧ swapsWith (.ListComp elt gs scope pos) (some (.Name x p)) l env = pure true := by
  unfold yesSwap at h
  obtain ⟨h, h3⟩ := ba h
  obtain ⟨h1, h2⟩ := ba h
  have h4 := of_decide_eq_true h1
  exact ⟨h4, sw_true hk h4 h2 (by simpa using h3)⟩
theorem noTup_sw {ts : List Expr} {e : Expr} {k : Nat} {p : Pos} (h : noTup e = true) (env : PySem.Env) : swappedStores [.Tuple ts k p] e env = pure none := by
  cases e <;> first | rfl | cases h
theorem noComp_sole {e : Expr} (h : noComp e = true) (t : Expr) (l : Nat) (env : PySem.Env) : swapsWithSole [t] e l env = pure false := noComp_sw h _ _ _
theorem noSlice_asg {i : Expr} (h : noSlice i = true) (o : Expr) (pos : Pos) (env : PySem.Env) (v : Value) : assign (.Subscript o i pos) env v = (do
      let ov ← holding [v] (eval o env)
      let iv ← holding [v, ov] (eval i env)
      standAt pos
      holding [v, ov, iv] (setItem ov iv v)
      release [v, ov, iv] []) := by
  cases i <;> first | rfl | cases h
section
variable {c : Ctx} {cA : Str → Addr} {T : Tab} {k : Nat}
theorem pass_str {s : Stmt} {X : Cx} {t : TS} (hp : ∀ pos, PS X (.Pass pos) t) (hd : ∀ x j p p', PS X (.Expr (.Constant (.str x) j p) p') t) (h : (match s with
    | .Pass _ => true
    | .Expr (.Constant (.str _) _ _) _ => true
    | _ => false) = true) : PS X s t := by
  split at h
  · exact hp _
  · exact hd _ _ _ _
  · cases h
mutual
theorem sndS : ∀ (m : Sm) (X : Cx) (Wx : WX), Gd c cA T k Wx X → ∀ (st : Stmt), ckS c m st = true → PS X st (liftS X.K cA Wx (WS (call T k) m))
  | .set i e, X, Wx, g, st, h => by
    simp only [ckS] at h
    split at h
    · obtain ⟨h, h4⟩ := ba h
      obtain ⟨h, h3⟩ := ba h
      obtain ⟨h1, h2⟩ := ba h
      obtain ⟨hl, hf⟩ := g.loc _ h2
      refine (ps_set (i := i) g.nd (by rw [g.hN]; exact of_decide_eq_true h1) hl (sndE _ e X Wx g _ h3) (noSwap_sw (by rw [g.sc]; exact h4) _) hf).weak fun D σ H ⟨F, β, Γ, S, s, en, q⟩ => ?_
      refine runE (call_mono T k) s en q (ex_post en) fun F1 β1 S1 H1 v x e1 s1 r1 q1 => ?_
      exact q1 F1 β1 H1 _ e1 s1 ((en.ext e1).set r1)
    · cases h
  | .ret e, X, Wx, g, st, h => by
    simp only [ckS] at h
    split at h
    · refine (ps_ret (sndE _ e X Wx g _ h)).weak fun D σ H ⟨F, β, Γ, S, s, en, q⟩ => ?_
      refine runE (call_mono T k) s en q (ex_post en) fun F1 β1 S1 H1 v x e1 s1 r1 q1 => ?_
      exact q1 F1 β1 H1 _ e1 s1 r1
    · cases h
  | .retN, X, Wx, g, st, h => by
    simp only [ckS] at h
    split at h
    · exact ps_retN.weak fun D σ H ⟨F, β, Γ, S, s, en, q⟩ => q F β H _ (Ext.refl _ _) s rfl
    · cases h
  | .pass, X, Wx, g, st, h => by
    simp only [ckS] at h
    exact pass_str (fun pos => ps_pass.weak fun D σ H ⟨F, β, Γ, S, s, en, q⟩ => q F β H _ (Ext.refl _ _) s en) (fun x j p p' => ps_doc.weak fun D σ H ⟨F, β, Γ, S, s, en, q⟩ => q F β H _ (Ext.refl _ _) s en) h
  | .brk, X, Wx, g, st, h => by
    simp only [ckS] at h
    split at h
    · exact ps_break.weak fun D σ H ⟨F, β, Γ, S, s, en, q⟩ => q F β H _ (Ext.refl _ _) s en
    · cases h
  | .cont, X, Wx, g, st, h => by
    simp only [ckS] at h
    split at h
    · exact ps_continue.weak fun D σ H ⟨F, β, Γ, S, s, en, q⟩ => q F β H _ (Ext.refl _ _) s en
    · cases h
  | .drop e, X, Wx, g, st, h => by
    simp only [ckS] at h
    split at h
    · obtain ⟨h1, h2⟩ := ba h
      refine (ps_expr (sndE _ e X Wx g _ h1) (noComp_sw h2 _ _ _)).weak fun D σ H ⟨F, β, Γ, S, s, en, q⟩ => ?_
      refine runE (call_mono T k) s en q (ex_post en) fun F1 β1 S1 H1 v x e1 s1 r1 q1 => ?_
      exact q1 F1 β1 H1 _ e1 s1 (en.ext e1)
    · cases h
  | .ite t a b, X, Wx, g, st, h => by
    simp only [ckS] at h
    split at h
    · obtain ⟨h, h3⟩ := ba h
      obtain ⟨h1, h2⟩ := ba h
      refine (ps_if (sndT _ t X Wx g _ h1) (sndSs a X Wx g _ h2) (sndSs b X Wx g _ h3)).weak fun D σ H ⟨F, β, Γ, S, s, en, q⟩ => ?_
      refine runT (call_mono T k) s en q (ex_post en) fun F1 β1 S1 H1 v e1 s1 q1 => ?_
      cases v with
      | true => exact ⟨F1, β1, Γ, S1, s1, en.ext e1, WSs_mono (call_mono T k) a _ _ _ _ (ends_ext e1) q1⟩
      | false => exact ⟨F1, β1, Γ, S1, s1, en.ext e1, WSs_mono (call_mono T k) b _ _ _ _ (ends_ext e1) q1⟩
    · cases h
  | .whil t b, X, Wx, g, st, h => by
    simp only [ckS] at h
    split at h
    · obtain ⟨h1, h2⟩ := ba h
      refine (ps_while g.pass (sndT _ t X Wx g _ h1) (sndSs b X Wx g _ h2)).weak fun D σ H ⟨F, β, Γ, S, s, en, n, q⟩ => ?_
      refine ⟨fun m σ H => ∃ F' β' Γ S, Ext F β F' β' ∧ Sim X.K cA F' β' S H ∧ EnvR X.K F' β' Γ σ ∧
        whN (fun Γ S P => WT (call T k) t Γ S P (fun x S1 => (ends X.K cA Wx F β D).ex x Γ S1)) (fun Nx Γ S => WSs (call T k) b { ends X.K cA Wx F β D with nx := Nx, ct := Nx, bk := (ends X.K cA Wx F β D).nx } Γ S) (ends X.K cA Wx F β D).nx m Γ S,
        ⟨n, F, β, Γ, S, Ext.refl _ _, s, en, q⟩, ?_⟩
      rintro m σ H ⟨F1, β1, Γ, S, e1, s1, en1, q⟩
      cases m with
      | zero => exact q.elim
      | succ m =>
        refine runT (call_mono T k) s1 en1 q (fun c' S' z => ex_post (D := D) en1 c' S' (postG_ext e1 _ _ z)) fun F2 β2 S2 H2 v e2 s2 q2 => ?_
        cases v with
        | false => exact q2 F2 β2 H2 _ (e1.trans e2) s2 (en1.ext e2)
        | true =>
          refine ⟨_, fun σ' H' z => ⟨m, Nat.lt_succ_self m, z⟩, F2, β2, Γ, S2, s2, en1.ext e2, ?_⟩
          refine WSs_mono (call_mono T k) b _ _ _ _ ⟨?_, fun v S h => post_ext (e1.trans e2) h, postG_ext (e1.trans e2), ?_, fun c => postG_ext (e1.trans e2)⟩ q2
          · exact fun Γ3 S3 z F3 β3 H3 σ3 e3 s3 g3 => ⟨F3, β3, Γ3, S3, e1.trans (e2.trans e3), s3, g3, z⟩
          · exact fun Γ3 S3 z F3 β3 H3 σ3 e3 s3 g3 => ⟨F3, β3, Γ3, S3, e1.trans (e2.trans e3), s3, g3, z⟩
    · cases h
  | .raise x, X, Wx, g, st, h => by
    simp only [ckS] at h
    split at h
    · obtain ⟨h, h3⟩ := ba h
      obtain ⟨h1, h2⟩ := ba h
      have hx := of_decide_eq_true h1
      subst hx
      obtain ⟨gC, xC, kC, rC⟩ := g.exc _ (by simpa using h3)
      refine (ps_raise g.calm g.tk (pmk_own PySem.F.excBase_ValueError xC gC kC rC (g.gl _ h2) (by have := (ba (ba h2).1).2; simpa using this))).weak fun D σ H ⟨F, β, Γ, S, s, en, q⟩ => ?_
      exact q F β H _ (Ext.refl _ _) s en
    · cases h
  | .asg tg e, X, Wx, g, st, h => by
    simp only [ckS] at h
    split at h
    · obtain ⟨h, h4⟩ := ba h
      obtain ⟨h, h3⟩ := ba h
      obtain ⟨h1, h2⟩ := ba h
      refine (ps_asg (sndE _ e X Wx g _ h2) (sndG (cA := cA) tg X g.hN g.nd g.loc g.calm _ h1) (noComp_sole h3 _ _ _) (noTup_sw h4 _)).weak fun D σ H ⟨F, β, Γ, S, s, en, q⟩ => ?_
      refine runE (call_mono T k) s en q (ex_post en) fun F1 β1 S1 H1 v x e1 s1 r1 ⟨Γ1, hb, q1⟩ => ?_
      exact ⟨F1, β1, Γ, S1, v, Γ1, s1, en.ext e1, r1, hb, fun σ' en' _ _ => q1 F1 β1 H1 _ e1 s1 en'⟩
    · cases h
  | .setSub o i e, X, Wx, g, st, h => by
    simp only [ckS] at h
    split at h
    · obtain ⟨h, h5⟩ := ba h
      obtain ⟨h, h4⟩ := ba h
      obtain ⟨h, h3⟩ := ba h
      obtain ⟨h1, h2⟩ := ba h
      refine (ps_asg (sndE _ e X Wx g _ h3) (pg_sub (sndE _ o X Wx g _ h1) (sndE _ i X Wx g _ h2) set_list (noSlice_asg h4 _ _ _)) (noComp_sole h5 _ _ _) rfl).weak fun D σ H ⟨F, β, Γ, S, s, en, q⟩ => ?_
      refine runE (call_mono T k) s en q (ex_post en) fun F1 β1 S1 H1 v x e1 s1 r1 q1 => ?_
      refine runE (call_mono T k) s1 (en.ext e1) q1 (fun c' S' z => postX_ext e1 c' S' (ex_post en c' S' z)) fun F2 β2 S2 H2 u y e2 s2 r2 q2 => ?_
      refine runE (call_mono T k) s2 (en.ext (e1.trans e2)) q2 (fun c' S' z => postX_ext (e1.trans e2) c' S' (ex_post en c' S' z)) fun F3 β3 S3 H3 w z e3 s3 r3 ⟨kk, eu, j, ew, xs, h0, n, h6, q3⟩ => ?_
      subst eu ew
      obtain ⟨a, ys, rfl, ha, e5, q5⟩ := loc_ok s3 h0 (r2.ext e3)
      cases r3
      refine ⟨a, ys, j, n, rfl, rfl, e5, by rw [← q5.len]; exact h6, ?_⟩
      exact q3 F3 β3 _ _ (e1.trans (e2.trans e3)) (put_lst s3 h0 ha (q5.set n (r1.ext (e2.trans e3)))) (en.ext (e1.trans (e2.trans e3)))
    · cases h
  | .aug i op e, X, Wx, g, st, h => by
    simp only [ckS] at h
    split at h
    · obtain ⟨h, h4⟩ := ba h
      obtain ⟨h, h3⟩ := ba h
      obtain ⟨h1, h2⟩ := ba h
      obtain ⟨h3, h8⟩ := ba h3
      obtain ⟨hl, hf⟩ := g.loc _ h2
      have hi := of_decide_eq_true h1
      rw [← g.hN] at hi
      have key : ∀ (f : Int → Int → Int), (∀ n m : Int, augI op n m = some (f n m)) → ∀ D σ H, liftS X.K cA Wx (WS (call T k) (.aug i op e)) D σ H → tAug i (liftE X.K cA Wx (W (call T k) e)) (ipI f) D σ H := by
        rintro f hf D σ H ⟨F, β, Γ, S, s, en, x, hx, q⟩
        obtain ⟨y, e0, r⟩ := en.get hx
        refine ⟨y, e0, ?_⟩
        refine runE (call_mono T k) s en q (ex_post en) fun F1 β1 S1 H1 v z e1 s1 r1 ⟨n, ex, m, ev, r', hr, q1⟩ => ?_
        subst ex ev
        cases r; cases r1
        rw [hf] at hr
        cases hr
        exact ⟨n, m, rfl, rfl, q1 F1 β1 H1 _ e1 s1 ((en.ext e1).set (v := .int _) rfl)⟩
      cases op with
      | add =>
        unfold bopB at h3
        split at h3 <;> first | cases h3 | skip
        all_goals simp only [reduceCtorEq] at *
        exact (ps_aug (i := i) g.nd hi hl (sndE _ e X Wx g _ h4) ip_add hf).weak (key _ fun _ _ => rfl)
      | sub =>
        unfold bopB at h3
        split at h3 <;> first | cases h3 | skip
        all_goals simp only [reduceCtorEq] at *
        exact (ps_aug (i := i) g.nd hi hl (sndE _ e X Wx g _ h4) ip_sub hf).weak (key _ fun _ _ => rfl)
      | _ => simp at h8
    · cases h
  | .setC i own elt tg it cond, X, Wx, g, st, h => by
    simp only [ckS] at h
    split at h
    · rename_i x p elt' tg' it' ifs scope pos spos
      obtain ⟨hh, h⟩ := ba h
      obtain ⟨hi, hsw⟩ := ba hh
      obtain ⟨h, h6⟩ := ba h
      obtain ⟨h, h5⟩ := ba h
      obtain ⟨h, h4⟩ := ba h
      obtain ⟨h, h3⟩ := ba h
      obtain ⟨h1, h2⟩ := ba h
      have hblk : BlkOk X.N X.env.scope scope (ownA c.N own) := by
        rw [g.hN, g.sc]; exact blkOk_by h1
      obtain ⟨hy, hsw2⟩ := yesSwap_sw (env := X.env) (by rw [g.sc]; exact g.kind) (by rw [g.sc]; exact hsw) spos.line
      refine (ps_setLc (i := i) (g := liftG X.K cA (tgS tg) fun S v Γ => bindT S tg v Γ) (tt := liftT X.K cA (fun _ _ _ _ => False) (fun Γ S P _ => WT0 (call T k) cond Γ S P)) (te := liftE X.K cA (fun _ _ _ _ => False) (W (call T k) elt)) g.calm g.nd (by rw [g.hN]; exact of_decide_eq_true hi) hy hsw2 (sndI _ it X Wx g _ _ h2) hblk (fun s H C cl fp => sndG tg _ (g.inn hblk.kind s H C cl fp).hN g.nd (g.inn hblk.kind s H C cl fp).loc g.calm _ h3)
        (fun s H C cl fp => sndT0 _ cond _ _ (g.inn hblk.kind s H C cl fp) _ h5) (fun s H C cl fp => sndE _ elt _ _ (g.inn hblk.kind s H C cl fp) _ h6) (ckI_fold h2 X.env)).weak fun D σ H ⟨F, β, Γ, S, s, en, q⟩ => ?_
      refine runI (call_mono T k) s en q (ex_post en) fun F1 β1 S1 H1 J xs G e1 s1 i1 ⟨q0, q1⟩ => ?_
      rw [ownA_ix]
      refine comp_ok (F := F) (β := β) (Q := fun x H' => D.nx (σ.set i (some x)) H') (call_mono T k) e1 s1 (en.ext e1) i1 ⟨q0, cpL_mono (fun Γ S P P' hp q => WT0_mono (call_mono T k) cond Γ S P P' hp q) (fun Γ S P P' hp q => W_mono (call_mono T k) elt Γ S P P' _ _ hp (fun _ _ z => z) q) (fun v S2 z => ?_) xs _ q1⟩ (fun i hi => by have := List.all_eq_true.mp h4 i hi; simpa using this)
      exact fun F' β' H' x e' s' r' => z F' β' H' _ e' s' ((en.ext e').set r')
    · cases h
  | .for_ tg it b, X, Wx, g, st, h => by
    simp only [ckS] at h
    split at h
    · obtain ⟨h, h3⟩ := ba h
      obtain ⟨h1, h2⟩ := ba h
      refine (ps_for g.pass g.calm (sndI _ it X Wx g _ _ h1) (sndG (cA := cA) tg X g.hN g.nd g.loc g.calm _ h2) (sndSs b X Wx g _ h3) (ckI_fold h1 X.env)).weak fun D σ H ⟨F, β, Γ, S, s, en, q⟩ => ?_
      refine runI (call_mono T k) s en q (ex_post en) fun F1 β1 S1 H1 J xs G e1 s1 i1 ⟨q0, q1⟩ => ?_
      refine ⟨fun i m σ H => m = xs.length - i ∧ i ≤ xs.length ∧ ∃ F' β' Γ S', Ext F1 β1 F' β' ∧ Sim X.K cA F' β' S' H ∧ EnvR X.K F' β' Γ σ ∧ G S' ∧
        frL (fun x Γ S => bindT S tg x Γ) (fun Nx Γ S => WSs (call T k) b { ends X.K cA Wx F β D with nx := Nx, ct := Nx, bk := (ends X.K cA Wx F β D).nx } Γ S) G (ends X.K cA Wx F β D).nx (xs.drop i) Γ S',
        ⟨xs.length, rfl, Nat.zero_le _, F1, β1, Γ, S1, Ext.refl _ _, s1, en.ext e1, q0, q1⟩, ?_⟩
      rintro i m σ H ⟨rfl, hi, F', β', Γ', S', e', s', en', g', c'⟩
      by_cases hlt : i < xs.length
      · refine .inr ⟨i1.go F' β' S' H i e' s' g' hlt, fun σ' H' => ∃ F' β' Γ S', Ext F1 β1 F' β' ∧ Sim X.K cA F' β' S' H' ∧ EnvR X.K F' β' Γ σ' ∧ G S' ∧
          frL (fun x Γ S => bindT S tg x Γ) (fun Nx Γ S => WSs (call T k) b { ends X.K cA Wx F β D with nx := Nx, ct := Nx, bk := (ends X.K cA Wx F β D).nx } Γ S) G (ends X.K cA Wx F β D).nx (xs.drop (i + 1)) Γ S',
          fun σ' H' z => ⟨xs.length - (i + 1), by omega, rfl, hlt, z⟩, fun x H' hy => ?_⟩
        obtain ⟨F2, v, hv, e2, s2, r2⟩ := i1.yld F' β' S' H i x H' e' s' g' hlt hy
        have hd : xs.drop i = v :: xs.drop (i + 1) := by
          rw [List.drop_eq_getElem_cons hlt]
          rw [List.getElem?_eq_getElem hlt] at hv
          cases hv; rfl
        rw [hd] at c'
        obtain ⟨Γ1, hb, ht⟩ := c'
        refine ⟨F2, β', Γ', S', v, Γ1, s2, en'.ext e2, r2, hb, fun σ2 en2 _ _ => ⟨F2, β', Γ1, S', s2, en2, ?_⟩⟩
        have eF : Ext F β F2 β' := e1.trans (e'.trans e2)
        refine WSs_mono (call_mono T k) b _ _ _ _ ⟨?_, fun v S h => post_ext eF h, postG_ext eF, ?_, fun c => postG_ext eF⟩ ht
        · exact fun Γ3 S3 z F3 β3 H3 σ3 e3 s3 g3 => ⟨F3, β3, Γ3, S3, (e'.trans e2).trans e3, s3, g3, z.1, z.2⟩
        · exact fun Γ3 S3 z F3 β3 H3 σ3 e3 s3 g3 => ⟨F3, β3, Γ3, S3, (e'.trans e2).trans e3, s3, g3, z.1, z.2⟩
      · have ei : i = xs.length := by omega
        subst ei
        refine .inl ⟨i1.stop F' β' S' H e' s' g', ?_⟩
        rw [List.drop_length] at c'
        exact c' F' β' H σ (e1.trans e') s' en'
    · cases h
theorem sndSs : ∀ (m : Sms) (X : Cx) (Wx : WX), Gd c cA T k Wx X → ∀ (st : List Stmt), ckSs c m st = true → PSs X st (liftS X.K cA Wx (WSs (call T k) m))
  | .nil, X, Wx, g, st, h => by
    simp only [ckSs] at h
    split at h
    · exact pss_nil.weak fun D σ H ⟨F, β, Γ, S, s, en, q⟩ => q F β H _ (Ext.refl _ _) s en
    · cases h
  | .cons m ms, X, Wx, g, st, h => by
    simp only [ckSs] at h
    split at h
    · obtain ⟨h1, h2⟩ := ba h
      refine (pss_cons (sndS m X Wx g _ h1) (sndSs ms X Wx g _ h2)).weak fun D σ H ⟨F, β, Γ, S, s, en, q⟩ => ?_
      refine ⟨F, β, Γ, S, s, en, WS_mono (call_mono T k) m { ends X.K cA Wx F β D with nx := fun Γ S => WSs (call T k) ms (ends X.K cA Wx F β D) Γ S } (ends X.K cA Wx F β { D with nx := liftS X.K cA Wx (WSs (call T k) ms) D }) _ _ ⟨?_, fun _ _ z => z, fun _ _ z => z, fun _ _ z => z, fun _ _ _ z => z⟩ q⟩
      exact fun Γ1 S1 z F1 β1 H1 σ1 e1 s1 g1 => ⟨F1, β1, Γ1, S1, s1, g1, WSs_mono (call_mono T k) ms _ _ _ _ (ends_ext e1) z⟩
    · cases h
end
end

/-! ### the store cut -/
section
variable {K : PySem.W.Frag} {F F' : Hp} {β : List Addr}
mutual
theorem VR.cl : ∀ (v : Va) (x : V), VR K F β v x → Cl β.length v
  | .non, _, _ => trivial
  | .bl _, _, _ => trivial
  | .int _, _, _ => trivial
  | .str _, _, _ => trivial
  | .scr _, _, _ => trivial
  | .tup xs, _, ⟨_, ys, _, _, r⟩ => VRs.cl xs ys r
  | .lst xs, _, ⟨_, ys, _, _, r⟩ => VRs.cl xs ys r
  | .dct xs, _, ⟨_, ys, _, _, r⟩ => VRk.cl xs ys r
  | .loc n, _, ⟨_, _, r⟩ => lt_of_get r
theorem VRs.cl : ∀ (v : List Va) (x : List V), VRs K F β v x → Cls_ β.length v
  | [], _, _ => trivial
  | v :: vs, _, ⟨y, r, _, q, qs⟩ => ⟨VR.cl v y q, VRs.cl vs r qs⟩
theorem VRk.cl : ∀ (v : List (Key × Va)) (x : List (Key × V)), VRk K F β v x → Clk β.length v
  | [], _, _ => trivial
  | (k, v) :: vs, _, ⟨y, r, _, q, qs⟩ => ⟨VR.cl v y q, VRk.cl vs r qs⟩
end
theorem VRf.cl : ∀ (v : List (Str × Va)) (x : List (Str × V)), VRf K F β v x → Clf β.length v
  | [], _, _ => trivial
  | (k, v) :: vs, _, ⟨y, r, _, q, qs⟩ => ⟨VR.cl v y q, VRf.cl vs r qs⟩
theorem OR.cl {cA : Str → Addr} {H : Hp} : ∀ (o : Ob) (a : Addr), OR K F β cA H o a → ClO β.length o
  | .lst xs, _, ⟨ys, _, r⟩ => VRs.cl xs ys r
  | .dct xs, _, ⟨ys, _, r⟩ => VRk.cl xs ys r
  | .ins C fs, _, ⟨_, ys, _, r⟩ => VRf.cl fs ys r
  | .dead, _, _ => trivial
theorem take_get {n i : Nat} {a : Addr} (h : β[i]? = some a) (hi : i < n) : (β.take n)[i]? = some a := by
  rw [List.getElem?_take, if_pos hi]; exact h
section
variable {n : Nat} (hF : Same F F')
include hF
mutual
theorem VR.cut : ∀ (v : Va) (x : V), VR K F β v x → Cl n v → VR K F' (β.take n) v x
  | .non, _, q, _ => q
  | .bl _, _, q, _ => q
  | .int _, _, q, _ => q
  | .str _, _, q, _ => q
  | .tup xs, _, ⟨a, ys, e, t, r⟩, h => ⟨a, ys, e, SqT.mono hF t, VRs.cut xs ys r h⟩
  | .lst xs, _, ⟨a, ys, e, t, r⟩, h => ⟨a, ys, e, hF _ _ t, VRs.cut xs ys r h⟩
  | .dct xs, _, ⟨a, ys, e, t, r⟩, h => ⟨a, ys, e, hF _ _ t, VRk.cut xs ys r h⟩
  | .scr ns, _, ⟨a, e, t⟩, _ => ⟨a, e, SqL.mono hF t⟩
  | .loc k, _, ⟨a, e, r⟩, h => ⟨a, e, take_get r h⟩
theorem VRs.cut : ∀ (v : List Va) (x : List V), VRs K F β v x → Cls_ n v → VRs K F' (β.take n) v x
  | [], _, q, _ => q
  | v :: vs, _, ⟨y, r, e, q, qs⟩, ⟨h, hs⟩ => ⟨y, r, e, VR.cut v y q h, VRs.cut vs r qs hs⟩
theorem VRk.cut : ∀ (v : List (Key × Va)) (x : List (Key × V)), VRk K F β v x → Clk n v → VRk K F' (β.take n) v x
  | [], _, q, _ => q
  | (k, v) :: vs, _, ⟨y, r, e, q, qs⟩, ⟨h, hs⟩ => ⟨y, r, e, VR.cut v y q h, VRk.cut vs r qs hs⟩
end
theorem VRf.cut : ∀ (v : List (Str × Va)) (x : List (Str × V)), VRf K F β v x → Clf n v → VRf K F' (β.take n) v x
  | [], _, q, _ => q
  | (k, v) :: vs, _, ⟨y, r, e, q, qs⟩, ⟨h, hs⟩ => ⟨y, r, e, VR.cut hF v y q h, VRf.cut vs r qs hs⟩
theorem OR.cut {cA : Str → Addr} {H : Hp} : ∀ (o : Ob) (a : Addr), OR K F β cA H o a → ClO n o → OR K F' (β.take n) cA H o a
  | .lst xs, _, ⟨ys, e, r⟩, h => ⟨ys, e, VRs.cut hF xs ys r h⟩
  | .dct xs, _, ⟨ys, e, r⟩, h => ⟨ys, e, VRk.cut hF xs ys r h⟩
  | .ins C fs, _, ⟨dx, ys, e, r⟩, h => ⟨dx, ys, e, VRf.cut hF fs ys r h⟩
  | .dead, _, _, _ => trivial
end
end
section
variable {K : PySem.W.Frag} {cA : Str → Addr} {F : Hp} {β : List Addr} {S : Sto} {H : Hp} {n : Nat} {F' : Hp}
section
variable (s : Sim K cA F β S H) (hF : Same F F') (hK : ∀ k a, n ≤ k → β[k]? = some a → F' a = H a)
include s hF hK
mutual
theorem Fz.ok : ∀ (v' v : Va) (x : V), Fz S n v v' → VR K F β v x → VR K F' (β.take n) v' x
  | .non, v, x, h, r => by cases (show v = _ from h); exact r
  | .bl _, v, x, h, r => by cases (show v = _ from h); exact r
  | .int _, v, x, h, r => by cases (show v = _ from h); exact r
  | .str _, v, x, h, r => by cases (show v = _ from h); exact r
  | .tup ys, v, x, ⟨xs, e, h⟩, r => by
    subst e
    obtain ⟨a, zs, e, t, q⟩ := r
    exact ⟨a, zs, e, SqT.mono hF t, Fzs.ok ys xs zs h q⟩
  | .lst ys, v, x, ⟨xs, e, h⟩, r => by
    rcases e with e | ⟨k, e, hk, hs⟩
    · subst e
      obtain ⟨a, zs, e, t, q⟩ := r
      exact ⟨a, zs, e, hF _ _ t, Fzs.ok ys xs zs h q⟩
    · subst e
      obtain ⟨a, e, t⟩ := r
      obtain ⟨b, e1, _, zs, e2, q⟩ := s.at hs
      rw [t] at e1
      cases (Option.some.inj e1)
      exact ⟨a, zs, e, (hK k a hk t).trans e2, Fzs.ok ys xs zs h q⟩
  | .dct ys, v, x, ⟨xs, e, h⟩, r => by
    rcases e with e | ⟨k, e, hk, hs⟩
    · subst e
      obtain ⟨a, zs, e, t, q⟩ := r
      exact ⟨a, zs, e, hF _ _ t, Fzk.ok ys xs zs h q⟩
    · subst e
      obtain ⟨a, e, t⟩ := r
      obtain ⟨b, e1, _, zs, e2, q⟩ := s.at hs
      rw [t] at e1
      cases (Option.some.inj e1)
      exact ⟨a, zs, e, (hK k a hk t).trans e2, Fzk.ok ys xs zs h q⟩
  | .loc k, v, x, ⟨e, h⟩, r => by
    subst e
    obtain ⟨a, e, t⟩ := r
    exact ⟨a, e, take_get t h⟩
  | .scr ns, v, x, h, r => by
    cases (show v = _ from h)
    obtain ⟨a, e, t⟩ := r
    exact ⟨a, e, SqL.mono hF t⟩
theorem Fzs.ok : ∀ (v' v : List Va) (x : List V), Fzs S n v v' → VRs K F β v x → VRs K F' (β.take n) v' x
  | [], v, x, h, r => by cases (show v = [] from h); exact r
  | y :: ys, v, x, ⟨z, zs, e, h, hs⟩, r => by
    subst e
    obtain ⟨w, ws, e, q, qs⟩ := r
    exact ⟨w, ws, e, Fz.ok y z w h q, Fzs.ok ys zs ws hs qs⟩
theorem Fzk.ok : ∀ (v' v : List (Key × Va)) (x : List (Key × V)), Fzk S n v v' → VRk K F β v x → VRk K F' (β.take n) v' x
  | [], v, x, h, r => by cases (show v = [] from h); exact r
  | (k, y) :: ys, v, x, ⟨z, zs, e, h, hs⟩, r => by
    subst e
    obtain ⟨w, ws, e, q, qs⟩ := r
    exact ⟨w, ws, e, Fz.ok y z w h q, Fzk.ok ys zs ws hs qs⟩
end
end
end
section
variable {K : PySem.W.Frag} {cA : Str → Addr} {F F' : Hp} {β β' : List Addr} {S S' : Sto} {H H' : Hp}
theorem cut_ok (s : Sim K cA F β S H) (e : Ext F β F' β') (s' : Sim K cA F' β' S' H') (hl : S.length ≤ S'.length) (hc : ∀ (i : Nat) (o : Ob), i < S.length → S'[i]? = some o → S[i]? = some o ∨ ClO S.length o) :
    ∃ F2, Ext F β F2 (β'.take S.length) ∧ Sim K cA F2 (β'.take S.length) (S'.take S.length) H' ∧ Same F' F2 ∧ ∀ k a, S.length ≤ k → β'[k]? = some a → F2 a = H' a := by
  have hn : ∀ a ∈ β', F' a = none := fun a ha => by
    obtain ⟨i, hi⟩ := List.getElem?_of_mem ha
    have hlt : i < S'.length := by rw [← s'.len]; exact lt_of_get hi
    exact (s'.obj i S'[i] a (by simp [hlt]) hi).1
  have sub : Same F' (fun a => if a ∈ β'.take S.length then none else H' a) := fun a o q => by
    have : a ∉ β'.take S.length := fun z => by rw [hn a (List.mem_of_mem_take z)] at q; cases q
    simp only [if_neg this]
    exact s'.sub a o q
  have hβ : β = β'.take S.length := by
    obtain ⟨t, rfl⟩ := e.pre
    rw [← s.len]; simp
  refine ⟨fun a => if a ∈ β'.take S.length then none else H' a, ⟨e.sub.trans sub, ?_⟩, ⟨fun a o q => ?_, by simp [s'.len], fun i j a e1 e2 => ?_, fun i o a e1 e2 => ?_, fun a ha => s'.fresh a (List.mem_of_mem_take ha)⟩, sub, fun k a hk ha => ?_⟩
  · rw [← hβ]; exact List.prefix_refl _
  · by_cases z : a ∈ β'.take S.length
    · simp only [if_pos z] at q; cases q
    · simpa only [if_neg z] using q
  · rw [List.getElem?_take] at e1 e2
    split at e1
    · split at e2
      · exact s'.inj i j a e1 e2
      · cases e2
    · cases e1
  · have hm : a ∈ β'.take S.length := List.mem_of_getElem? e2
    refine ⟨if_pos hm, ?_⟩
    rw [List.getElem?_take] at e1 e2
    split at e1
    · rename_i hi
      rw [if_pos hi] at e2
      obtain ⟨h1, h2⟩ := s'.obj i o a e1 e2
      refine OR.cut sub o a h2 ?_
      rcases hc i o hi e1 with z | z
      · obtain ⟨b, hb, _, h3⟩ := s.at z
        have := OR.cl o b h3
        rwa [s.len] at this
      · exact z
    · cases e1
  · have : a ∉ β'.take S.length := fun z => by
      obtain ⟨i, hi⟩ := List.getElem?_of_mem z
      rw [List.getElem?_take] at hi
      split at hi
      · have := s'.inj i k a hi ha
        omega
      · cases hi
    simp only [if_neg this]
theorem shed_ok (s : Sim K cA F β S H) (e : Ext F β F' β') (s' : Sim K cA F' β' S' H') {v v' : Va} {S'' : Sto} {x : V} (r : VR K F' β' v x) (h : Shed S v S' v' S'') :
    ∃ F2 β2, Ext F β F2 β2 ∧ Sim K cA F2 β2 S'' H' ∧ VR K F2 β2 v' x := by
  rcases h with ⟨rfl, rfl⟩ | ⟨⟨rfl, hl, hc⟩, hz⟩
  · exact ⟨F', β', e, s', r⟩
  · obtain ⟨F2, e2, s2, sub, hk⟩ := cut_ok s e s' hl hc
    exact ⟨F2, _, e2, s2, Fz.ok s' sub hk v' v x hz r⟩
theorem cutx_ok (s : Sim K cA F β S H) (e : Ext F β F' β') (s' : Sim K cA F' β' S' H') {S'' : Sto} (h : Cut S S' S'') : ∃ F2 β2, Ext F β F2 β2 ∧ Sim K cA F2 β2 S'' H' := by
  rcases h with rfl | ⟨rfl, hl, hc⟩
  · exact ⟨F', β', e, s'⟩
  · obtain ⟨F2, e2, s2, sub, hk⟩ := cut_ok s e s' hl hc
    exact ⟨F2, _, e2, s2⟩
end
end AM
end

section
set_option linter.all false
set_option maxRecDepth 100000
set_option maxHeartbeats 4000000
/-! AM, eighth part: every def of the text keeps its promise; the law's end. -/
namespace AM
open PySem L2

structure Facts (K : PySem.W.Frag) (mg : Str → Option Value) (cA : Str → Addr) (T : Tab) (fs xs : List Str) : Prop where
  fn : ∀ f ∈ fs, ∃ d a fd st, T f = some d ∧ mg f = some (.ref a) ∧ FunD K f f (defArgs st) (defBody st) (defScope st) [] [] a fd ∧ Binds K fd d.ps [] ∧ ckF xs fs d st = true
  blt : ∀ x ∈ bltNames, mg x = none
  exc : ∀ x ∈ xs, mg x = some (.ref (cA x)) ∧ PySem.W.excIn K (cA x) [.type "ValueError", .type "Exception", .type "BaseException", .type "object"] "ValueError.__new__" = true ∧ PySem.W.keepIn K (.ref (cA x)) = true ∧
    PySem.W.subIn K (.ref (cA x)) (.type "BaseException") = some true ∧ PySem.W.typeIn K (.ref (cA x)) = some (.type "type")

theorem start_rel {K : PySem.W.Frag} {F : Hp} {β : List Addr} : ∀ {as : List Va} {vs : List V}, VRs K F β as vs → ∀ (n : Nat), EnvR K F β (as.map some ++ List.replicate n none) (vs.map some ++ List.replicate n none)
  | [], _, h, n => by
    cases (show _ = [] from h)
    induction n with
    | zero => trivial
    | succ n ih => exact ⟨trivial, ih⟩
  | a :: as, _, ⟨y, r, e, q, qs⟩, n => by
    subst e
    exact ⟨q, start_rel qs n⟩

section
variable {P : Program} {w : World} {K : PySem.W.Frag} {mg : Str → Option Value} {base : Heap} {cA : Str → Addr} {T : Tab} {fs xs : List Str}
theorem fn_ok (G : Facts K mg cA T fs xs) : ∀ (k : Nat) (f : Str) (d : Fn) (a : Addr) (fd : FuncData) (st : Stmt), T f = some d → mg f = some (.ref a) → FunD K f f (defArgs st) (defBody st) (defScope st) [] [] a fd → ckF xs fs d st = true →
    FnOk P w K mg base (L2.CX P w) k a fd d.ps (spI K cA (call T k) f)
  | 0, f, d, a, fd, st, h1, h2, h3, h5 => ⟨fun vs H Q E ⟨F, β, S, as, _, _, q⟩ => q.elim, fun A outer s H args us vs Q E _ _ _ _ ⟨F, β, S, as, _, _, q⟩ => q.elim⟩
  | k + 1, f, d, a, fd, st, h1, h2, h3, h5 => by
    have ih : ∀ f ∈ fs, ∃ d a fd, T f = some d ∧ mg f = some (.ref a) ∧ PySem.W.keepIn K (.ref a) = true ∧ Binds K fd d.ps [] ∧ FnOk P w K mg base (L2.CX P w) k a fd d.ps (spI K cA (call T k) f) := fun f hf => by
      obtain ⟨d, a, fd, st, h1, h2, h3, h4, h5⟩ := G.fn f hf
      exact ⟨d, a, fd, h1, h2, h3.kp, h4, fn_ok G k f d a fd st h1 h2 h3 h5⟩
    unfold ckF at h5
    split at h5
    · rename_i nm ar bd dl rt ty sc tp bn ps
      obtain ⟨h5, _⟩ := ba h5
      obtain ⟨h5, _⟩ := ba h5
      obtain ⟨h5, _⟩ := ba h5
      obtain ⟨h5, _⟩ := ba h5
      obtain ⟨h5, _⟩ := ba h5
      obtain ⟨h5, _⟩ := ba h5
      obtain ⟨h5, _⟩ := ba h5
      obtain ⟨h5, c8⟩ := ba h5
      obtain ⟨h5, c7⟩ := ba h5
      obtain ⟨h5, c6⟩ := ba h5
      obtain ⟨h5, c5⟩ := ba h5
      obtain ⟨h5, c4⟩ := ba h5
      obtain ⟨h5, c3⟩ := ba h5
      obtain ⟨c1, c2⟩ := ba h5
      have hN : d.N.Nodup := of_decide_eq_true c5
      refine h3.ok (CX := L2.CX P w) (N := d.N) ⟨of_decide_eq_true c2, (show sc.isCoroutine = false from by simpa using c3), (show sc.isGenerator = false from by simpa using c4), hN, of_decide_eq_true c6, fun x hx => loc_of (List.all_eq_true.mp c7 x hx), fun y hy => by have := List.all_eq_true.mp c8 y hy; exact of_decide_eq_true this⟩
        (fun vs H Q E ⟨F, β, S, as, s, r, d', hd, hl, _⟩ => ?_) (fun cdv A outer s H vs Q E hr ⟨F, β, S, as, si, r, d', hd, hl, q⟩ => ?_)
      · rw [h1] at hd; cases hd
        rw [← hl, r.len]
      · rw [h1] at hd; cases hd
        have g : Gd ⟨d.N, sc, xs, fs, locB sc⟩ cA T k (fun cls dd _ H => E cls dd H) (cxOf (L2.CX P w) P w K mg base d.N f sc a cdv A outer s H E) := by
          refine ⟨rfl, hN, rfl, of_decide_eq_true c2, fun x h => ⟨loc_of h, .inl rfl⟩, rfl, hr, takes_of rfl rfl rfl rfl, passes_of rfl, G.blt, ih, fun x hx => ?_⟩
          obtain ⟨e1, e2, e3, e4, e5⟩ := G.exc x hx
          exact ⟨e1, e2, e3, raises_own e4 e5⟩
        refine ⟨_, sndSs d.body _ _ g bd c1, F, β, startA d.N as, S, si, ?_, WSs_mono (call_mono T k) d.body _ _ _ _ ⟨?_, ?_, ?_, ?_, ?_⟩ q⟩
        · have := start_rel r (d.N.length - vs.length)
          unfold startA L2.start
          rw [r.len]
          exact this
        · intro Γ S' ⟨v', S'', hs, hp⟩ F' β' H' σ' e' s' g'
          obtain ⟨F2, β2, e2, s2, r2⟩ := shed_ok si e' s' (v := .non) (x := .non) rfl hs
          exact hp F2 β2 H' _ e2 s2 r2
        · intro v S' ⟨v', S'', hs, hp⟩ F' β' H' x e' s' r'
          obtain ⟨F2, β2, e2, s2, r2⟩ := shed_ok si e' s' r' hs
          exact hp F2 β2 H' _ e2 s2 r2
        · exact fun _ _ z => z.elim
        · exact fun _ _ z => z.elim
        · intro x Γ S' ⟨S'', hs, hp⟩ F' β' H' σ' e' s' g'
          obtain ⟨F2, β2, e2, s2⟩ := cutx_ok si e' s' hs
          exact hp F2 β2 H' e2 s2
    · cases h5

theorem fnil {Q : Str → Prop} : ∀ f ∈ ([] : List Str), Q f := fun _ h => by cases h
theorem fcons {Q : Str → Prop} {x : Str} {l : List Str} (h : Q x) (t : ∀ f ∈ l, Q f) : ∀ f ∈ x :: l, Q f := fun f hf => by
  rcases List.mem_cons.mp hf with e | hf
  · rw [e]; exact h
  · exact t f hf
/-- the law's promise from the machine's -/
theorem law_ok (G : Facts K mg cA T fs xs) (hlaw : ("law" : Str) ∈ fs) {k : Nat} {a : Addr} {H : Hp} {ns : List Int} (hS : SqL K H a (ns.map V.int))
    (h : call T k "law" [.scr ns] [] (fun v _ => v = .bl true) (fun _ _ => False)) : spI K cA (call T k) "law" [.ref a] H (fun v _ => v = .bl true) (fun _ _ _ => False) := by
  refine ⟨H, [], [], [.scr ns], ⟨Same.refl _, rfl, fun i j a e => by simp at e, fun i o a e => by simp at e, fun a e => by simp at e⟩, ⟨.ref a, [], rfl, ⟨a, rfl, hS⟩, rfl⟩, ?_⟩
  · refine call_mono T k _ _ _ _ _ _ _ (fun v S e F' β' H' x _ _ r => ?_) (fun _ _ z => z.elim) h
    subst e
    exact r
end

/-- a law's end, with the bits of the script's numbers told -/
theorem walk_ofEB {l : PySem.W.OpenLaw} {n k : Nat} {q : Program} {loose : List Str} {XP : (Str → Option Value) → Heap → Prop} {YP : World → Heap → Prop} {d : DefRec} {CX : World → CXT} {x : Str}
    (hn : l.most = some n) (hn2 : n ≤ sizeLine) (hdf : d.params.defaults = []) (hr : Room k callerA)
    (F : ∀ (w : World) (mg : Str → Option Value) (fa : Addr) (h : Heap), YP w h → h.Ns mainGlobals mg → mg d.name = some (.ref fa) →
      ∃ (K : PySem.W.Frag) (fd : FuncData) (sp : Sp), K.In h ∧ (∀ (s : Shared) (u : Value), BindsTo s fd ⟨[u], []⟩ [(x, u)]) ∧
        (∀ (H : Hp) (a : Addr) (ns : List Int), ns.length ≤ n → (∀ z ∈ ns, Builtin.Int.intBits z ≤ 1048576) → Only H → SqL K H a (ns.map V.int) → sp [.ref a] H (fun v _ => v = .bl true) fun _ _ _ => False) ∧
        ∀ base : Heap, K.In base → base.Ns mainGlobals mg → FnOk l.prog w K mg base (CX w) k fa fd [x] sp)
    (hCX : ∀ (w : World) (H : Hp) (s : Shared) (e : Value) (s' : Shared), CX w [] H s (fun _ _ _ => False) e s' → False) :
    PySem.W.WalkO q loose XP YP l.row.toRowW d [] (fun f vs => PySem.call f vs) := by
  refine Att.attach_callB hn hdf fun w s₀ s₁ mg mb fa o pm cd doc a vs ns G Y ho hd hcd hmg hobj hints hlen hbits hg => ?_
  obtain ⟨K, fd, sp, KX, hb, hsp, hF⟩ := F w mg fa _ Y G.T.g hmg
  exact law_call KX G.T.g G.T.b G.T.builtins G.T.nolimit hg hobj hints (Nat.le_trans hlen hn2) hr hF hb (fun H hO hS => hsp H a ns hlen hbits hO hS) fun H e s' => hCX w H s₁ e s'
end AM
end

section
set_option linter.all false
set_option maxRecDepth 100000
set_option maxHeartbeats 4000000
/-! AM, ninth part: rules for use. -/
namespace AM
open PySem L2

theorem fin_keep {S0 S : Sto} {P : PV} {v : Va} (h : P v S) : fin S0 P v S := ⟨v, S, .inl ⟨rfl, rfl⟩, h⟩
theorem finX_keep {S0 S : Sto} {E : PX} {x : Str} (h : E x S) : finX S0 E x S := ⟨S, .inl rfl, h⟩
/-- what is new is taken for good, the store as it was -/
theorem fin_pure {S N : Sto} {P : PV} {v v' : Va} (hz : Fz (S ++ N) S.length v v') (h : P v' S) : fin S P v (S ++ N) :=
  ⟨v', S, .inr ⟨⟨by simp, by simp, fun i o hi e => .inl (by rw [List.getElem?_append_left hi] at e; exact e)⟩, hz⟩, h⟩
theorem fin_pure' {S S1 : Sto} {P : PV} {v v' : Va} (hS : ∃ N, S1 = S ++ N) (hz : Fz S1 S.length v v') (h : P v' S) : fin S P v S1 := by
  obtain ⟨N, rfl⟩ := hS
  exact fin_pure hz h
theorem call_def {T : Tab} {k : Nat} {f : Str} {as : List Va} {S : Sto} {P : PV} {E : PX} {d : Fn} (h : T f = some d) (hl : as.length = d.ps.length)
    (hb : WSs (call T k) d.body { nx := fun _ S' => fin S P .non S', rt := fin S P, ex := fun x _ S' => finX S E x S' } (startA d.N as) S) : call T (k + 1) f as S P E := ⟨d, h, hl, hb⟩

/-- a while by a word and a measure -/
theorem wh_rule {C : Orc} (hC : OrcMono C) {t : Te} {b : Sms} {D : AEnds} {Γ : Env} {S : Sto} (I : Env → Sto → Prop) (μ : Env → Sto → Nat) (h0 : I Γ S)
    (h : ∀ Γ S, I Γ S → WT C t Γ S (fun k S1 => if k = true then WSs C b { D with nx := fun Γ' S' => I Γ' S' ∧ μ Γ' S' < μ Γ S, ct := fun Γ' S' => I Γ' S' ∧ μ Γ' S' < μ Γ S, bk := D.nx } Γ S1 else D.nx Γ S1) (fun x S1 => D.ex x Γ S1)) :
    WS C (.whil t b) D Γ S := by
  have key : ∀ (m : Nat) (Γ : Env) (S : Sto), I Γ S → μ Γ S < m → whN (fun Γ S P => WT C t Γ S P (fun x S1 => D.ex x Γ S1)) (fun Nx Γ S => WSs C b { D with nx := Nx, ct := Nx, bk := D.nx } Γ S) D.nx m Γ S := by
    intro m
    induction m with
    | zero => intro Γ S _ hm; omega
    | succ m ih =>
      intro Γ S hI hm
      refine WT_mono hC t Γ S _ _ _ _ (fun k S1 h1 => ?_) (fun _ _ z => z) (h Γ S hI)
      cases k with
      | false => exact h1
      | true => exact WSs_mono hC b { D with nx := fun Γ' S' => I Γ' S' ∧ μ Γ' S' < μ Γ S, ct := fun Γ' S' => I Γ' S' ∧ μ Γ' S' < μ Γ S, bk := D.nx } { D with nx := _, ct := _, bk := D.nx } Γ S1 ⟨fun Γ' S' z => ih Γ' S' z.1 (by omega), fun _ _ z => z, fun _ _ z => z, fun Γ' S' z => ih Γ' S' z.1 (by omega), fun _ _ _ z => z⟩ h1
  exact ⟨μ Γ S + 1, key _ Γ S h0 (by omega)⟩
/-- a while whose states are told by a datum, the store as it is -/
theorem wh_ix {C : Orc} (hC : OrcMono C) {α : Type} {t : Te} {b : Sms} {D : AEnds} {S : Sto} (st : α → Env) (P : α → Prop) (μ : α → Nat) (a : α) (h0 : P a)
    (h : ∀ a, P a → WT C t (st a) S (fun k S1 => if k = true then WSs C b { D with nx := fun Γ' S' => ∃ a', Γ' = st a' ∧ S' = S ∧ P a' ∧ μ a' < μ a, ct := fun Γ' S' => ∃ a', Γ' = st a' ∧ S' = S ∧ P a' ∧ μ a' < μ a, bk := D.nx } (st a) S1 else D.nx (st a) S1) (fun x S1 => D.ex x (st a) S1)) :
    WS C (.whil t b) D (st a) S := by
  have key : ∀ (m : Nat) (a : α), P a → μ a < m → whN (fun Γ S P => WT C t Γ S P (fun x S1 => D.ex x Γ S1)) (fun Nx Γ S => WSs C b { D with nx := Nx, ct := Nx, bk := D.nx } Γ S) D.nx m (st a) S := by
    intro m
    induction m with
    | zero => intro a _ hm; omega
    | succ m ih =>
      intro a hI hm
      refine WT_mono hC t _ S _ _ _ _ (fun k S1 h1 => ?_) (fun _ _ z => z) (h a hI)
      cases k with
      | false => exact h1
      | true => exact WSs_mono hC b { D with nx := fun Γ' S' => ∃ a', Γ' = st a' ∧ S' = S ∧ P a' ∧ μ a' < μ a, ct := fun Γ' S' => ∃ a', Γ' = st a' ∧ S' = S ∧ P a' ∧ μ a' < μ a, bk := D.nx } { D with nx := _, ct := _, bk := D.nx } _ S1 ⟨fun Γ' S' ⟨a', e1, e2, z, l⟩ => by rw [e1, e2]; exact ih a' z (by omega), fun _ _ z => z, fun _ _ z => z, fun Γ' S' ⟨a', e1, e2, z, l⟩ => by rw [e1, e2]; exact ih a' z (by omega), fun _ _ _ z => z⟩ h1
  exact ⟨μ a + 1, key _ a h0 (by omega)⟩
theorem st_set0 {o : Option Va} {r : Env} {v : Option Va} : List.set (o :: r) 0 v = v :: r := rfl
theorem st_setS {o : Option Va} {r : Env} {v : Option Va} {i : Nat} : List.set (o :: r) (i + 1) v = o :: List.set r i v := rfl
theorem iteTrue {A B : Prop} : (if (true : Bool) = true then A else B) = A := if_pos rfl
theorem iteFalse {A B : Prop} : (if (false : Bool) = true then A else B) = B := if_neg (by decide)
theorem iteDec {p A B : Prop} [Decidable p] : (if decide p = true then A else B) = (if p then A else B) := by
  by_cases h : p <;> simp [h]
theorem iteNDec {p A B : Prop} [Decidable p] : (if (!decide p) = true then A else B) = (if p then B else A) := by
  by_cases h : p <;> simp [h]
theorem exSome {α : Type} {a : α} {P : α → Prop} : (∃ v, some a = some v ∧ P v) = P a := by
  apply propext
  constructor
  · rintro ⟨v, e, h⟩; cases e; exact h
  · exact fun h => ⟨a, rfl, h⟩
theorem exBl {a : Bool} {P : Bool → Prop} : (∃ b, Va.bl a = Va.bl b ∧ P b) = P a := by
  apply propext
  constructor
  · rintro ⟨v, e, h⟩; cases e; exact h
  · exact fun h => ⟨a, rfl, h⟩
/-! ### the equations, by constructor -/
section
variable {C : Orc} {Γ : Env} {S : Sto} {P : PV} {E : PX} {D : AEnds} {Q : Bool → Sto → Prop} {R : PL}
theorem W_var {i} : W C (.var i) Γ S P E = ∃ v, gt Γ i = some v ∧ P v S := rfl
theorem W_int {i} : W C (.int i) Γ S P E = P (.int i) S := rfl
theorem W_bl {i} : W C (.bl i) Γ S P E = P (.bl i) S := rfl
theorem W_non : W C .non Γ S P E = P .non S := rfl
theorem W_str {i} : W C (.str i) Γ S P E = P (.str i) S := rfl
theorem W_tup {es} : W C (.tup es) Γ S P E = WL C es Γ S (fun vs S1 => vs.length ≤ 1000 ∧ P (.tup vs) S1) E := rfl
theorem W_lst {es} : W C (.lst es) Γ S P E = WL C es Γ S (fun vs S1 => vs.length ≤ 1000 ∧ P (.loc S1.length) (S1 ++ [.lst vs])) E := rfl
theorem W_bin {op a b} : W C (.bin op a b) Γ S P E = W C a Γ S (fun x S1 => W C b Γ S1 (fun y S2 => wBin op x y S2 P) E) E := rfl
theorem W_neg {a} : W C (.neg a) Γ S P E = W C a Γ S (fun x S1 => wNeg x S1 P) E := rfl
theorem W_cmp {op a b} : W C (.cmp op a b) Γ S P E = W C a Γ S (fun x S1 => W C b Γ S1 (fun y S2 => wCmp op x y S2 P) E) E := rfl
theorem W_isN {a} : W C (.isN a) Γ S P E = W C a Γ S (fun x S1 => P (.bl (isNon x)) S1) E := rfl
theorem W_notN {a} : W C (.notN a) Γ S P E = W C a Γ S (fun x S1 => P (.bl (!isNon x)) S1) E := rfl
theorem W_chain {op op' a b c} : W C (.chain op op' a b c) Γ S P E = W C a Γ S (fun x S1 => W C b Γ S1 (fun y S2 => wCmp op x y S2 (fun z S3 => ∃ k, z = .bl k ∧ if k = true then W C c Γ S3 (fun u S4 => wCmp op' y u S4 P) E else P (.bl false) S3)) E) E := rfl
theorem W_tst {t} : W C (.tst t) Γ S P E = WB C t Γ S P E := rfl
theorem W_ite {t a b} : W C (.ite t a b) Γ S P E = WT C t Γ S (fun k S1 => if k = true then W C a Γ S1 P E else W C b Γ S1 P E) E := rfl
theorem W_call {f es} : W C (.call f es) Γ S P E = WL C es Γ S (fun vs S1 => C f vs S1 P E) E := rfl
theorem W_len {a} : W C (.len a) Γ S P E = W C a Γ S (fun x S1 => wLen x S1 P) E := rfl
theorem W_abs {a} : W C (.abs a) Γ S P E = W C a Γ S (fun x S1 => wAbs x S1 P) E := rfl
theorem W_isi {a t} : W C (.isi a t) Γ S P E = W C a Γ S (fun x S1 => ∃ b, tyIs S1 x t = some b ∧ P (.bl b) S1) E := rfl
theorem W_sub {a i} : W C (.sub a i) Γ S P E = W C a Γ S (fun x S1 => W C i Γ S1 (fun y S2 => wSub x y S2 P) E) E := rfl
theorem WT_val {e} : WT C (.val e) Γ S Q E = W C e Γ S (fun v S1 => ∃ b, tru S1 v = some b ∧ Q b S1) E := rfl
theorem WT_not {t} : WT C (.not t) Γ S Q E = WT C t Γ S (fun b S1 => Q (!b) S1) E := rfl
theorem WT_and {ts} : WT C (.and ts) Γ S Q E = WA C ts Γ S Q E := rfl
theorem WT_or {ts} : WT C (.or ts) Γ S Q E = WO C ts Γ S Q E := rfl
theorem WA_one {t} : WA C (.one t) Γ S Q E = WT C t Γ S Q E := rfl
theorem WA_cons {t ts} : WA C (.cons t ts) Γ S Q E = WT C t Γ S (fun b S1 => if b = true then WA C ts Γ S1 Q E else Q false S1) E := rfl
theorem WO_one {t} : WO C (.one t) Γ S Q E = WT C t Γ S Q E := rfl
theorem WO_cons {t ts} : WO C (.cons t ts) Γ S Q E = WT C t Γ S (fun b S1 => if b = true then Q true S1 else WO C ts Γ S1 Q E) E := rfl
theorem WB_val {e} : WB C (.val e) Γ S P E = W C e Γ S P E := rfl
theorem WB_not {t} : WB C (.not t) Γ S P E = WB C t Γ S (fun v S1 => ∃ b, v = .bl b ∧ P (.bl (!b)) S1) E := rfl
theorem WB_and {ts} : WB C (.and ts) Γ S P E = WBA C ts Γ S P E := rfl
theorem WB_or {ts} : WB C (.or ts) Γ S P E = WBO C ts Γ S P E := rfl
theorem WBA_one {t} : WBA C (.one t) Γ S P E = WB C t Γ S P E := rfl
theorem WBA_cons {t ts} : WBA C (.cons t ts) Γ S P E = WB C t Γ S (fun v S1 => ∃ b, v = .bl b ∧ if b = true then WBA C ts Γ S1 P E else P (.bl false) S1) E := rfl
theorem WBO_one {t} : WBO C (.one t) Γ S P E = WB C t Γ S P E := rfl
theorem WBO_cons {t ts} : WBO C (.cons t ts) Γ S P E = WB C t Γ S (fun v S1 => ∃ b, v = .bl b ∧ if b = true then P (.bl true) S1 else WBO C ts Γ S1 P E) E := rfl
theorem WL_nil : WL C .nil Γ S R E = R [] S := rfl
theorem WL_cons {e es} : WL C (.cons e es) Γ S R E = W C e Γ S (fun v S1 => WL C es Γ S1 (fun vs S2 => R (v :: vs) S2) E) E := rfl
theorem WS_set {i e} : WS C (.set i e) D Γ S = W C e Γ S (fun v S1 => D.nx (Γ.set i (some v)) S1) (fun x S1 => D.ex x Γ S1) := rfl
theorem WS_ret {e} : WS C (.ret e) D Γ S = W C e Γ S D.rt (fun x S1 => D.ex x Γ S1) := rfl
theorem WS_retN : WS C .retN D Γ S = D.rt .non S := rfl
theorem WS_pass : WS C .pass D Γ S = D.nx Γ S := rfl
theorem WS_brk : WS C .brk D Γ S = D.bk Γ S := rfl
theorem WS_cont : WS C .cont D Γ S = D.ct Γ S := rfl
theorem WS_drop {e} : WS C (.drop e) D Γ S = W C e Γ S (fun _ S1 => D.nx Γ S1) (fun x S1 => D.ex x Γ S1) := rfl
theorem WS_ite {t a b} : WS C (.ite t a b) D Γ S = WT C t Γ S (fun k S1 => if k = true then WSs C a D Γ S1 else WSs C b D Γ S1) (fun x S1 => D.ex x Γ S1) := rfl
theorem WS_raise {x} : WS C (.raise x) D Γ S = D.ex x Γ S := rfl
theorem WSs_nil : WSs C .nil D Γ S = D.nx Γ S := rfl
theorem WSs_cons {s ss} : WSs C (.cons s ss) D Γ S = WS C s { D with nx := fun Γ S => WSs C ss D Γ S } Γ S := rfl
theorem Ss_set {i e ss} : WSs C (.cons (.set i e) ss) D Γ S = W C e Γ S (fun v S1 => WSs C ss D (Γ.set i (some v)) S1) (fun x S1 => D.ex x Γ S1) := rfl
theorem Ss_ret {e ss} : WSs C (.cons (.ret e) ss) D Γ S = W C e Γ S D.rt (fun x S1 => D.ex x Γ S1) := rfl
theorem Ss_retN {ss} : WSs C (.cons .retN ss) D Γ S = D.rt .non S := rfl
theorem Ss_pass {ss} : WSs C (.cons .pass ss) D Γ S = WSs C ss D Γ S := rfl
theorem Ss_brk {ss} : WSs C (.cons .brk ss) D Γ S = D.bk Γ S := rfl
theorem Ss_cont {ss} : WSs C (.cons .cont ss) D Γ S = D.ct Γ S := rfl
theorem Ss_drop {e ss} : WSs C (.cons (.drop e) ss) D Γ S = W C e Γ S (fun _ S1 => WSs C ss D Γ S1) (fun x S1 => D.ex x Γ S1) := rfl
theorem Ss_raise {x ss} : WSs C (.cons (.raise x) ss) D Γ S = D.ex x Γ S := rfl
/-- a branch that goes on nowhere -/
theorem Ss_ite_ret {t e r b ss} : WSs C (.cons (.ite t (.cons (.ret e) r) b) ss) D Γ S = WT C t Γ S (fun k S1 => if k = true then W C e Γ S1 D.rt (fun x S1 => D.ex x Γ S1) else WSs C b { D with nx := fun Γ S => WSs C ss D Γ S } Γ S1) (fun x S1 => D.ex x Γ S1) := rfl
theorem Ss_ite_retN {t r b ss} : WSs C (.cons (.ite t (.cons .retN r) b) ss) D Γ S = WT C t Γ S (fun k S1 => if k = true then D.rt .non S1 else WSs C b { D with nx := fun Γ S => WSs C ss D Γ S } Γ S1) (fun x S1 => D.ex x Γ S1) := rfl
theorem Ss_ite_raise {t x r b ss} : WSs C (.cons (.ite t (.cons (.raise x) r) b) ss) D Γ S = WT C t Γ S (fun k S1 => if k = true then D.ex x Γ S1 else WSs C b { D with nx := fun Γ S => WSs C ss D Γ S } Γ S1) (fun x S1 => D.ex x Γ S1) := rfl
theorem Ss_ite_cont {t r b ss} : WSs C (.cons (.ite t (.cons .cont r) b) ss) D Γ S = WT C t Γ S (fun k S1 => if k = true then D.ct Γ S1 else WSs C b { D with nx := fun Γ S => WSs C ss D Γ S } Γ S1) (fun x S1 => D.ex x Γ S1) := rfl
theorem Ss_ite_brk {t r b ss} : WSs C (.cons (.ite t (.cons .brk r) b) ss) D Γ S = WT C t Γ S (fun k S1 => if k = true then D.bk Γ S1 else WSs C b { D with nx := fun Γ S => WSs C ss D Γ S } Γ S1) (fun x S1 => D.ex x Γ S1) := rfl
/-- the last statement -/
theorem Ss_ite_last {t a b} : WSs C (.cons (.ite t a b) .nil) D Γ S = WT C t Γ S (fun k S1 => if k = true then WSs C a D Γ S1 else WSs C b D Γ S1) (fun x S1 => D.ex x Γ S1) := rfl
/-- .. any other: both ways -/
theorem Ss_ite {t a b ss} : WSs C (.cons (.ite t a b) ss) D Γ S = WT C t Γ S (fun k S1 => if k = true then WSs C a { D with nx := fun Γ S => WSs C ss D Γ S } Γ S1 else WSs C b { D with nx := fun Γ S => WSs C ss D Γ S } Γ S1) (fun x S1 => D.ex x Γ S1) := rfl
theorem gt_0 {o : Option Va} {r : Env} : gt (o :: r) 0 = o := rfl
theorem gt_S {o : Option Va} {r : Env} {i : Nat} : gt (o :: r) (i + 1) = gt r i := rfl
theorem wAdd_int {i j : Int} : wBin .add (.int i) (.int j) S P = P (.int (i + j)) S := rfl
theorem wSub_int {i j : Int} : wBin .sub (.int i) (.int j) S P = P (.int (i - j)) S := rfl
theorem wMul_int {i j : Int} : wBin .mul (.int i) (.int j) S P = (CMulA i j ∧ P (.int (i * j)) S) := rfl
theorem wDiv_int {i j : Int} : wBin .fdiv (.int i) (.int j) S P = (CDivA j ∧ P (.int (i.fdiv j)) S) := rfl
theorem wMod_int {i j : Int} : wBin .mod (.int i) (.int j) S P = (j ≠ 0 ∧ P (.int (i.fmod j)) S) := rfl
theorem wPow_int {i j : Int} : wBin .pow (.int i) (.int j) S P = (CPow i j ∧ P (.int (i ^ j.toNat)) S) := rfl
theorem wAdd_str {i j : Str} : wBin .add (.str i) (.str j) S P = (i.length + j.length ≤ sizeLine ∧ P (.str (i ++ j)) S) := rfl
theorem wNeg_int {i : Int} : wNeg (.int i) S P = P (.int (-i)) S := rfl
theorem wAbs_int {i : Int} : wAbs (.int i) S P = P (.int (if i < 0 then -i else i)) S := rfl
theorem wLt_int {i j : Int} : wCmp .lt (.int i) (.int j) S P = P (.bl (decide (i < j))) S := rfl
theorem wLe_int {i j : Int} : wCmp .le (.int i) (.int j) S P = P (.bl (decide (i ≤ j))) S := rfl
theorem wGt_int {i j : Int} : wCmp .gt (.int i) (.int j) S P = P (.bl (decide (j < i))) S := rfl
theorem wGe_int {i j : Int} : wCmp .ge (.int i) (.int j) S P = P (.bl (decide (j ≤ i))) S := rfl
theorem eq_data {x y : Va} (hs : AM.scal x y = true) (he : ∀ d e, DV S x d → DV S y e → PyData.eqv d e = eqF x y) : wCmp .eq x y S P = P (.bl (eqF x y)) S := by
  apply propext
  simp only [wCmp]
  constructor
  · rintro (⟨_, h⟩ | ⟨d, e, h1, h2, _, _, h⟩)
    · exact h
    · rwa [he d e h1 h2] at h
  · exact fun h => .inl ⟨hs, h⟩
theorem ne_data {x y : Va} (hs : AM.scal x y = true) (he : ∀ d e, DV S x d → DV S y e → PyData.eqv d e = eqF x y) : wCmp .ne x y S P = P (.bl (!eqF x y)) S := by
  apply propext
  simp only [wCmp]
  constructor
  · rintro (⟨_, h⟩ | ⟨d, e, h1, h2, _, _, h⟩)
    · exact h
    · rwa [he d e h1 h2] at h
  · exact fun h => .inl ⟨hs, h⟩
theorem wEq_int {i j : Int} : wCmp .eq (.int i) (.int j) S P = P (.bl (decide (i = j))) S := eq_data rfl fun d e h1 h2 => by
  cases h1; cases h2; simp [PyData.eqv, eqF, Bool.beq_eq_decide_eq]
theorem wNe_int {i j : Int} : wCmp .ne (.int i) (.int j) S P = P (.bl (!decide (i = j))) S := ne_data rfl fun d e h1 h2 => by
  cases h1; cases h2; simp [PyData.eqv, eqF, Bool.beq_eq_decide_eq]
theorem wEq_bl {i j : Bool} : wCmp .eq (.bl i) (.bl j) S P = P (.bl (decide (i = j))) S := eq_data rfl fun d e h1 h2 => by
  cases h1; cases h2; simp [PyData.eqv, eqF, Bool.beq_eq_decide_eq]
theorem wNe_bl {i j : Bool} : wCmp .ne (.bl i) (.bl j) S P = P (.bl (!decide (i = j))) S := ne_data rfl fun d e h1 h2 => by
  cases h1; cases h2; simp [PyData.eqv, eqF, Bool.beq_eq_decide_eq]
theorem wEq_str {i j : Str} : wCmp .eq (.str i) (.str j) S P = P (.bl (decide (i = j))) S := eq_data rfl fun d e h1 h2 => by
  cases h1; cases h2; simp [PyData.eqv, eqF, Bool.beq_eq_decide_eq]
theorem wNe_str {i j : Str} : wCmp .ne (.str i) (.str j) S P = P (.bl (!decide (i = j))) S := ne_data rfl fun d e h1 h2 => by
  cases h1; cases h2; simp [PyData.eqv, eqF, Bool.beq_eq_decide_eq]
theorem wLen_tup {xs : List Va} : wLen (.tup xs) S P = P (.int xs.length) S := rfl
theorem wLen_lst {xs : List Va} : wLen (.lst xs) S P = P (.int xs.length) S := rfl
theorem tru_bl {b : Bool} : tru S (.bl b) = some b := rfl
theorem tru_int {i : Int} : tru S (.int i) = some (i != 0) := rfl
theorem ty_int_int {i : Int} : tyIs S (.int i) .int = some true := rfl
theorem ty_int_bool {i : Int} : tyIs S (.int i) .bool = some false := rfl
theorem ty_int_str {i : Int} : tyIs S (.int i) .str = some false := rfl
theorem ty_int_tuple {i : Int} : tyIs S (.int i) .tuple = some false := rfl
theorem ty_int_list {i : Int} : tyIs S (.int i) .list = some false := rfl
theorem ty_int_dict {i : Int} : tyIs S (.int i) .dict = some false := rfl
theorem ty_bl_int {i : Bool} : tyIs S (.bl i) .int = some true := rfl
theorem ty_bl_bool {i : Bool} : tyIs S (.bl i) .bool = some true := rfl
theorem ty_bl_str {i : Bool} : tyIs S (.bl i) .str = some false := rfl
theorem ty_bl_tuple {i : Bool} : tyIs S (.bl i) .tuple = some false := rfl
theorem ty_bl_list {i : Bool} : tyIs S (.bl i) .list = some false := rfl
theorem ty_bl_dict {i : Bool} : tyIs S (.bl i) .dict = some false := rfl
theorem ty_str_int {i : Str} : tyIs S (.str i) .int = some false := rfl
theorem ty_str_bool {i : Str} : tyIs S (.str i) .bool = some false := rfl
theorem ty_str_str {i : Str} : tyIs S (.str i) .str = some true := rfl
theorem ty_str_tuple {i : Str} : tyIs S (.str i) .tuple = some false := rfl
theorem ty_str_list {i : Str} : tyIs S (.str i) .list = some false := rfl
theorem ty_str_dict {i : Str} : tyIs S (.str i) .dict = some false := rfl
theorem ty_tup_int {i : List Va} : tyIs S (.tup i) .int = some false := rfl
theorem ty_tup_bool {i : List Va} : tyIs S (.tup i) .bool = some false := rfl
theorem ty_tup_str {i : List Va} : tyIs S (.tup i) .str = some false := rfl
theorem ty_tup_tuple {i : List Va} : tyIs S (.tup i) .tuple = some true := rfl
theorem ty_tup_list {i : List Va} : tyIs S (.tup i) .list = some false := rfl
theorem ty_tup_dict {i : List Va} : tyIs S (.tup i) .dict = some false := rfl
theorem ty_lst_int {i : List Va} : tyIs S (.lst i) .int = some false := rfl
theorem ty_lst_bool {i : List Va} : tyIs S (.lst i) .bool = some false := rfl
theorem ty_lst_str {i : List Va} : tyIs S (.lst i) .str = some false := rfl
theorem ty_lst_tuple {i : List Va} : tyIs S (.lst i) .tuple = some false := rfl
theorem ty_lst_list {i : List Va} : tyIs S (.lst i) .list = some true := rfl
theorem ty_lst_dict {i : List Va} : tyIs S (.lst i) .dict = some false := rfl
theorem ty_dct_int {i : List (L2.Key × Va)} : tyIs S (.dct i) .int = some false := rfl
theorem ty_dct_bool {i : List (L2.Key × Va)} : tyIs S (.dct i) .bool = some false := rfl
theorem ty_dct_str {i : List (L2.Key × Va)} : tyIs S (.dct i) .str = some false := rfl
theorem ty_dct_tuple {i : List (L2.Key × Va)} : tyIs S (.dct i) .tuple = some false := rfl
theorem ty_dct_list {i : List (L2.Key × Va)} : tyIs S (.dct i) .list = some false := rfl
theorem ty_dct_dict {i : List (L2.Key × Va)} : tyIs S (.dct i) .dict = some true := rfl
theorem ty_non {t : Ty} : tyIs S .non t = some false := rfl
theorem wSub_tup {xs : List Va} {i : Int} : wSub (.tup xs) (.int i) S P = ∃ v, L2.atI xs i = some v ∧ P v S := rfl
theorem wSub_lst {xs : List Va} {i : Int} : wSub (.lst xs) (.int i) S P = ∃ v, L2.atI xs i = some v ∧ P v S := rfl
theorem sub_tup0 {x0 : Va} {xs : List Va} : wSub (.tup (x0 :: xs)) (.int 0) S P = P x0 S := by
  have h : L2.atI (x0 :: xs) 0 = some x0 := L2.atI_nat (j := 0) rfl
  rw [wSub_tup, h, exSome]
theorem sub_tup1 {x0 x1 : Va} {xs : List Va} : wSub (.tup (x0 :: x1 :: xs)) (.int 1) S P = P x1 S := by
  have h : L2.atI (x0 :: x1 :: xs) 1 = some x1 := L2.atI_nat (j := 1) rfl
  rw [wSub_tup, h, exSome]
theorem sub_tup2 {x0 x1 x2 : Va} {xs : List Va} : wSub (.tup (x0 :: x1 :: x2 :: xs)) (.int 2) S P = P x2 S := by
  have h : L2.atI (x0 :: x1 :: x2 :: xs) 2 = some x2 := L2.atI_nat (j := 2) rfl
  rw [wSub_tup, h, exSome]
theorem sub_tup3 {x0 x1 x2 x3 : Va} {xs : List Va} : wSub (.tup (x0 :: x1 :: x2 :: x3 :: xs)) (.int 3) S P = P x3 S := by
  have h : L2.atI (x0 :: x1 :: x2 :: x3 :: xs) 3 = some x3 := L2.atI_nat (j := 3) rfl
  rw [wSub_tup, h, exSome]
theorem sub_tup4 {x0 x1 x2 x3 x4 : Va} {xs : List Va} : wSub (.tup (x0 :: x1 :: x2 :: x3 :: x4 :: xs)) (.int 4) S P = P x4 S := by
  have h : L2.atI (x0 :: x1 :: x2 :: x3 :: x4 :: xs) 4 = some x4 := L2.atI_nat (j := 4) rfl
  rw [wSub_tup, h, exSome]
theorem sub_tup5 {x0 x1 x2 x3 x4 x5 : Va} {xs : List Va} : wSub (.tup (x0 :: x1 :: x2 :: x3 :: x4 :: x5 :: xs)) (.int 5) S P = P x5 S := by
  have h : L2.atI (x0 :: x1 :: x2 :: x3 :: x4 :: x5 :: xs) 5 = some x5 := L2.atI_nat (j := 5) rfl
  rw [wSub_tup, h, exSome]
theorem sub_lst0 {x0 : Va} {xs : List Va} : wSub (.lst (x0 :: xs)) (.int 0) S P = P x0 S := by
  have h : L2.atI (x0 :: xs) 0 = some x0 := L2.atI_nat (j := 0) rfl
  rw [wSub_lst, h, exSome]
theorem sub_lst1 {x0 x1 : Va} {xs : List Va} : wSub (.lst (x0 :: x1 :: xs)) (.int 1) S P = P x1 S := by
  have h : L2.atI (x0 :: x1 :: xs) 1 = some x1 := L2.atI_nat (j := 1) rfl
  rw [wSub_lst, h, exSome]
theorem sub_lst2 {x0 x1 x2 : Va} {xs : List Va} : wSub (.lst (x0 :: x1 :: x2 :: xs)) (.int 2) S P = P x2 S := by
  have h : L2.atI (x0 :: x1 :: x2 :: xs) 2 = some x2 := L2.atI_nat (j := 2) rfl
  rw [wSub_lst, h, exSome]
theorem sub_lst3 {x0 x1 x2 x3 : Va} {xs : List Va} : wSub (.lst (x0 :: x1 :: x2 :: x3 :: xs)) (.int 3) S P = P x3 S := by
  have h : L2.atI (x0 :: x1 :: x2 :: x3 :: xs) 3 = some x3 := L2.atI_nat (j := 3) rfl
  rw [wSub_lst, h, exSome]
theorem sub_lst4 {x0 x1 x2 x3 x4 : Va} {xs : List Va} : wSub (.lst (x0 :: x1 :: x2 :: x3 :: x4 :: xs)) (.int 4) S P = P x4 S := by
  have h : L2.atI (x0 :: x1 :: x2 :: x3 :: x4 :: xs) 4 = some x4 := L2.atI_nat (j := 4) rfl
  rw [wSub_lst, h, exSome]
theorem sub_lst5 {x0 x1 x2 x3 x4 x5 : Va} {xs : List Va} : wSub (.lst (x0 :: x1 :: x2 :: x3 :: x4 :: x5 :: xs)) (.int 5) S P = P x5 S := by
  have h : L2.atI (x0 :: x1 :: x2 :: x3 :: x4 :: x5 :: xs) 5 = some x5 := L2.atI_nat (j := 5) rfl
  rw [wSub_lst, h, exSome]
end
/-- two statements, by what holds between -/
theorem seq_cut {C : Orc} (hC : OrcMono C) {s : Sm} {ss : Sms} {D : AEnds} {Γ : Env} {S : Sto} (M : Env → Sto → Prop) (h1 : WS C s { D with nx := M } Γ S) (h2 : ∀ Γ' S', M Γ' S' → WSs C ss D Γ' S') : WSs C (.cons s ss) D Γ S :=
  WS_mono hC s { D with nx := M } { D with nx := fun Γ S => WSs C ss D Γ S } Γ S ⟨h2, fun _ _ z => z, fun _ _ z => z, fun _ _ z => z, fun _ _ _ z => z⟩ h1
/-- .. where the environment and the store behind the first are known -/
theorem seq_to {C : Orc} (hC : OrcMono C) {s : Sm} {ss : Sms} {D : AEnds} {Γ : Env} {S : Sto} (Γ1 : Env) (S1 : Sto) (h1 : WS C s { D with nx := fun Γ' S' => Γ' = Γ1 ∧ S' = S1 } Γ S) (h2 : WSs C ss D Γ1 S1) : WSs C (.cons s ss) D Γ S :=
  seq_cut hC _ h1 (fun Γ' S' ⟨e1, e2⟩ => by rw [e1, e2]; exact h2)
theorem startA_eq {N : List Str} {as : List Va} : startA N as = as.map some ++ List.replicate (N.length - as.length) none := rfl
/-! ### lists, walks -/
/-- the turns of a for -/
def forB (C : Orc) (tg : Tg) (b : Sms) (D : AEnds) (G : Sto → Prop) (xs : List Va) (Γ : Env) (S : Sto) : Prop :=
  frL (fun x Γ S => bindT S tg x Γ) (fun Nx Γ S => WSs C b { D with nx := Nx, ct := Nx, bk := D.nx } Γ S) G D.nx xs Γ S
/-- the turns of a comprehension -/
def cpB (C : Orc) (own : List Nat) (elt : Ex) (tg : Tg) (cond : Tes0) (G : Sto → Prop) (d : Nat) (P : PV) (xs : List Va) (Γ : Env) (S : Sto) : Prop :=
  cpL (fun x S => bindT S tg x (wipeA Γ own)) (fun Γ S Q => WT0 C cond Γ S Q) (fun Γ S Q => W C elt Γ S Q (fun _ _ => False)) G d P xs S
section
variable {C : Orc} {Γ : Env} {S : Sto} {P : PV} {E : PX} {D : AEnds} {Q : Bool → Sto → Prop} {R : PL} {I : PI_} {O : Option Int → Sto → Prop}
theorem W_slice {a lo hi} : W C (.slice a lo hi) Γ S P E = W C a Γ S (fun x S1 => WOe C lo Γ S1 (fun l S2 => WOe C hi Γ S2 (fun h S3 => wSlice x l h S3 P) E) E) E := rfl
theorem W_blt {f es} : W C (.blt f es) Γ S P E = WL C es Γ S (fun vs S1 => wBlt f vs S1 P) E := rfl
theorem W_mth {m o es} : W C (.mth m o es) Γ S P E = W C o Γ S (fun x S1 => mOk S1 m x ∧ WL C es Γ S1 (fun vs S2 => wMth m x vs S2 P) E) E := rfl
theorem WOe_none : WOe C .none Γ S O E = O none S := rfl
theorem WOe_some {e} : WOe C (.some e) Γ S O E = W C e Γ S (fun v S1 => ∃ i, v = .int i ∧ O (some i) S1) E := rfl
theorem WI_seq {e} : WI C (.seq e) Γ S I E = W C e Γ S (fun v S1 => wSeq v S1 I) E := rfl
theorem WI_range1 {a} : WI C (.range1 a) Γ S I E = W C a Γ S (fun v S1 => ∃ i : Int, v = .int i ∧ -(2 ^ 62) ≤ i ∧ i < 2 ^ 62 ∧ I (rangeV 0 i.toNat) (fun _ => True) S1) E := rfl
theorem WI_range2 {a b} : WI C (.range2 a b) Γ S I E = W C a Γ S (fun v S1 => W C b Γ S1 (fun u S2 => ∃ i : Int, v = .int i ∧ ∃ j : Int, u = .int j ∧ (-(2 ^ 62) ≤ i ∧ i < 2 ^ 62 ∧ -(2 ^ 62) ≤ j ∧ j < 2 ^ 62) ∧ I (rangeV i (j - i).toNat) (fun _ => True) S2) E) E := rfl
theorem WI_enum {e} : WI C (.enum e) Γ S I E = W C e Γ S (fun v S1 => wLst v S1 fun xs G S2 => I (enumV 0 xs) G S2) E := rfl
theorem WI_zip {a b} : WI C (.zip a b) Γ S I E = W C a Γ S (fun v S1 => W C b Γ S1 (fun u S2 => wLst v S2 fun xs G S3 => wLst u S3 fun ys G' S4 => I (zipV xs ys) (fun S' => G S' ∧ G' S') S4) E) E := rfl
theorem WI_rev {e} : WI C (.rev e) Γ S I E = W C e Γ S (fun v S1 => wLst v S1 fun xs G S2 => I xs.reverse G S2) E := rfl
theorem WT0_none : WT0 C .none Γ S Q = Q true S := rfl
theorem WT0_some {t} : WT0 C (.some t) Γ S Q = WT C t Γ S Q (fun _ _ => False) := rfl
theorem Ss_asg {tg e ss} : WSs C (.cons (.asg tg e) ss) D Γ S = W C e Γ S (fun v S1 => ∃ Γ1, bindT S1 tg v Γ = some Γ1 ∧ WSs C ss D Γ1 S1) (fun x S1 => D.ex x Γ S1) := rfl
theorem Ss_setSub {o i e ss} : WSs C (.cons (.setSub o i e) ss) D Γ S = W C e Γ S (fun v S1 => W C o Γ S1 (fun x S2 => W C i Γ S2 (fun y S3 => ∃ k, x = .loc k ∧ ∃ j, y = .int j ∧ ∃ xs, S3[k]? = some (.lst xs) ∧ ∃ n, L2.ixN xs.length j = some n ∧ WSs C ss D Γ (S3.set k (.lst (xs.set n v)))) (fun x S1 => D.ex x Γ S1)) (fun x S1 => D.ex x Γ S1)) (fun x S1 => D.ex x Γ S1) := rfl
theorem Ss_aug {i op e ss} : WSs C (.cons (.aug i op e) ss) D Γ S = ∃ x, gt Γ i = some x ∧ W C e Γ S (fun y S1 => ∃ n : Int, x = .int n ∧ ∃ m : Int, y = .int m ∧ ∃ r : Int, augI op n m = some r ∧ WSs C ss D (Γ.set i (some (.int r))) S1) (fun x S1 => D.ex x Γ S1) := rfl
theorem WS_asg {tg e} : WS C (.asg tg e) D Γ S = W C e Γ S (fun v S1 => ∃ Γ1, bindT S1 tg v Γ = some Γ1 ∧ D.nx Γ1 S1) (fun x S1 => D.ex x Γ S1) := rfl
theorem WS_for {tg it b} : WS C (.for_ tg it b) D Γ S = WI C it Γ S (fun xs G S1 => G S1 ∧ forB C tg b D G xs Γ S1) (fun x S1 => D.ex x Γ S1) := rfl
theorem W_comp {own elt tg it cond} : W C (.comp own elt tg it cond) Γ S P E = WI C it Γ S (fun xs G S1 => G (S1 ++ [.lst []]) ∧ cpB C own elt tg cond G S1.length P xs Γ (S1 ++ [.lst []])) E := rfl
theorem Ss_setC {i own elt tg it cond ss} : WSs C (.cons (.setC i own elt tg it cond) ss) D Γ S = WI C it Γ S (fun xs G S1 => G (S1 ++ [.lst []]) ∧ cpB C own elt tg cond G S1.length (fun v S2 => WSs C ss D (Γ.set i (some v)) S2) xs Γ (S1 ++ [.lst []])) (fun x S1 => D.ex x Γ S1) := rfl
theorem WS_aug {i op e} : WS C (.aug i op e) D Γ S = ∃ x, gt Γ i = some x ∧ W C e Γ S (fun y S1 => ∃ n : Int, x = .int n ∧ ∃ m : Int, y = .int m ∧ ∃ r : Int, augI op n m = some r ∧ D.nx (Γ.set i (some (.int r))) S1) (fun x S1 => D.ex x Γ S1) := rfl
theorem bT_name {i v} : bindT S (.name i) v Γ = some (Γ.set i (some v)) := rfl
theorem bT_tup {ts xs} : bindT S (.tup ts) (.tup xs) Γ = bindTs S ts xs Γ := rfl
theorem bT_lst {ts xs} : bindT S (.tup ts) (.lst xs) Γ = bindTs S ts xs Γ := rfl
theorem bT_loc {ts k xs} (h : S[k]? = some (.lst xs)) : bindT S (.tup ts) (.loc k) Γ = bindTs S ts xs Γ := by
  simp only [bindT, partsOf, h]
theorem bTs_nil : bindTs S .nil [] Γ = some Γ := rfl
theorem bTs_cons {t ts x xs} {Γ1 : Env} (h : bindT S t x Γ = some Γ1) : bindTs S (.cons t ts) (x :: xs) Γ = bindTs S ts xs Γ1 := by
  simp only [bindTs, h]
theorem bTs_name {i ts x xs} : bindTs S (.cons (.name i) ts) (x :: xs) Γ = bindTs S ts xs (Γ.set i (some x)) := rfl
theorem seq_lst {xs} : wSeq (.lst xs) S I = I xs (fun _ => True) S := rfl
theorem seq_tup {xs} : wSeq (.tup xs) S I = I xs (fun _ => True) S := rfl
theorem seq_scr {ns} : wSeq (.scr ns) S I = I (ns.map Va.int) (fun _ => True) S := rfl
theorem seq_str {z} : wSeq (.str z) S I = I (z.cps.toList.map fun c => Va.str ⟨#[c]⟩) (fun _ => True) S := rfl
theorem seq_loc {k} : wSeq (.loc k) S I = ∃ xs, S[k]? = some (.lst xs) ∧ I xs (fun S' => S'[k]? = some (.lst xs)) S := rfl
theorem lst_lst {xs} : wLst (.lst xs) S I = I xs (fun _ => True) S := rfl
theorem lst_scr {ns} : wLst (.scr ns) S I = I (ns.map Va.int) (fun _ => True) S := rfl
theorem lst_loc {k} : wLst (.loc k) S I = ∃ xs, S[k]? = some (.lst xs) ∧ I xs (fun S' => S'[k]? = some (.lst xs)) S := rfl
theorem exInt {a : Int} {P : Int → Prop} : (∃ b, Va.int a = Va.int b ∧ P b) = P a := by
  apply propext
  constructor
  · rintro ⟨v, e, h⟩; cases e; exact h
  · exact fun h => ⟨a, rfl, h⟩
theorem exLoc {a : Nat} {P : Nat → Prop} : (∃ b, Va.loc a = Va.loc b ∧ P b) = P a := by
  apply propext
  constructor
  · rintro ⟨v, e, h⟩; cases e; exact h
  · exact fun h => ⟨a, rfl, h⟩
theorem exLst {a : List Va} {P : List Va → Prop} : (∃ b, some (Ob.lst a) = some (Ob.lst b) ∧ P b) = P a := by
  apply propext
  constructor
  · rintro ⟨v, e, h⟩; cases e; exact h
  · exact fun h => ⟨a, rfl, h⟩
theorem exLst1 {a : List Va} : (∃ b, some (Ob.lst a) = some (Ob.lst b)) = True := by
  apply propext
  exact ⟨fun _ => trivial, fun _ => ⟨a, rfl⟩⟩
theorem exLV_lst {a : List Va} {P : List Va → Prop} : (∃ b, LV S (.lst a) b ∧ P b) = P a := by
  apply propext
  constructor
  · rintro ⟨v, e | ⟨k, e, _⟩, h⟩
    · cases e; exact h
    · cases e
  · exact fun h => ⟨a, .inl rfl, h⟩
theorem exLV_loc {k : Nat} {P : List Va → Prop} : (∃ b, LV S (.loc k) b ∧ P b) = ∃ b, S[k]? = some (.lst b) ∧ P b := by
  apply propext
  constructor
  · rintro ⟨v, e | ⟨k', e, h'⟩, h⟩
    · cases e
    · cases e; exact ⟨v, h', h⟩
  · exact fun ⟨v, h', h⟩ => ⟨v, .inr ⟨k, rfl, h'⟩, h⟩
theorem mOk_loc {m k} (h : m ≠ .join) : mOk S m (.loc k) = ∃ b, S[k]? = some (.lst b) := by
  apply propext
  cases m <;> first | exact absurd rfl h | exact ⟨fun ⟨v, q⟩ => by rcases q with e | ⟨k', e, h'⟩ <;> cases e; exact ⟨v, h'⟩, fun ⟨v, q⟩ => ⟨v, .inr ⟨k, rfl, q⟩⟩⟩
theorem mOk_app {k} : mOk S .append (.loc k) = ∃ b, S[k]? = some (.lst b) := mOk_loc (by decide)
theorem mOk_pop {k} : mOk S .pop (.loc k) = ∃ b, S[k]? = some (.lst b) := mOk_loc (by decide)
theorem mOk_ext {k} : mOk S .extend (.loc k) = ∃ b, S[k]? = some (.lst b) := mOk_loc (by decide)
theorem mOk_ins {k} : mOk S .insert (.loc k) = ∃ b, S[k]? = some (.lst b) := mOk_loc (by decide)
theorem mOk_ind {k} : mOk S .index (.loc k) = ∃ b, S[k]? = some (.lst b) := mOk_loc (by decide)
theorem mOk_join {a} : mOk S .join (.str a) = True := by
  apply propext
  exact ⟨fun _ => trivial, fun _ => ⟨a, rfl⟩⟩
theorem mOk_indl {xs} : mOk S .index (.lst xs) = True := by
  apply propext
  exact ⟨fun _ => trivial, fun _ => ⟨xs, .inl rfl⟩⟩
theorem m_append {k y} : wMth .append (.loc k) [y] S P = ∃ xs, S[k]? = some (.lst xs) ∧ xs.length < 1000000 ∧ P .non (S.set k (.lst (xs ++ [y]))) := rfl
theorem m_pop {k} : wMth .pop (.loc k) [] S P = ∃ xs, S[k]? = some (.lst xs) ∧ ∃ y, xs[xs.length - 1]? = some y ∧ P y (S.set k (.lst xs.dropLast)) := rfl
theorem m_extend {k z} : wMth .extend (.loc k) [z] S P = ∃ xs, S[k]? = some (.lst xs) ∧ ∃ zs, LV S z zs ∧ xs.length + zs.length ≤ 1000000 ∧ P .non (S.set k (.lst (xs ++ zs))) := rfl
theorem m_insert {k i y} : wMth .insert (.loc k) [.int i, y] S P = ∃ xs, S[k]? = some (.lst xs) ∧ xs.length < 1000000 ∧ 0 ≤ i ∧ i < 2 ^ 63 ∧ P .non (S.set k (.lst (xs.take i.toNat ++ [y] ++ xs.drop i.toNat))) := rfl
theorem m_join {a z} : wMth .join (.str a) [z] S P = ∃ ys : List Str, (z = .tup (ys.map Va.str) ∨ LV S z (ys.map Va.str)) ∧ (ys.map PySem.Str.length).sum + ys.length * a.length ≤ 16777216 ∧ P (.str (Txt.join a ys)) S := rfl
theorem b_listL {xs} : wBlt .list [.lst xs] S P = P (.loc S.length) (S ++ [.lst xs]) := rfl
theorem b_listT {xs} : wBlt .list [.tup xs] S P = P (.loc S.length) (S ++ [.lst xs]) := rfl
theorem b_listS {ns} : wBlt .list [.scr ns] S P = P (.loc S.length) (S ++ [.lst (ns.map Va.int)]) := rfl
theorem b_listK {k} : wBlt .list [.loc k] S P = ∃ xs, S[k]? = some (.lst xs) ∧ P (.loc S.length) (S ++ [.lst xs]) := rfl
theorem b_tupL {xs} : wBlt .tuple [.lst xs] S P = P (.tup xs) S := rfl
theorem b_tupT {xs} : wBlt .tuple [.tup xs] S P = P (.tup xs) S := rfl
theorem b_tupK {k} : wBlt .tuple [.loc k] S P = ∃ xs, S[k]? = some (.lst xs) ∧ P (.tup xs) S := rfl
theorem b_max2 {i j} : wBlt .max2 [.int i, .int j] S P = P (.int (if j > i then j else i)) S := rfl
theorem b_min2 {i j} : wBlt .min2 [.int i, .int j] S P = P (.int (if j < i then j else i)) S := rfl
theorem b_ord {x} : wBlt .ord [.str x] S P = (x.length = 1 ∧ P (.int (x.cps.getD 0 0 : Nat)) S) := rfl
theorem b_str {i} : wBlt .str [.int i] S P = (i.natAbs.log2 < 1920 ∧ P (.str (toString i)) S) := rfl
theorem b_sum {v} : wBlt .sum [v] S P = ∃ ns : List Int, LV S v (ns.map Va.int) ∧ P (.int ns.sum) S := rfl
theorem b_max1 {v} : wBlt .max1 [v] S P = ∃ ns : List Int, LV S v (ns.map Va.int) ∧ 0 < ns.length ∧ ∀ m, m ∈ ns → (∀ y, y ∈ ns → y ≤ m) → P (.int m) S := rfl
theorem sl_lst {xs lo hi} : wSlice (.lst xs) lo hi S P = P (.loc S.length) (S ++ [.lst (cutA xs lo hi)]) := rfl
theorem sl_loc {k lo hi} : wSlice (.loc k) lo hi S P = ∃ xs, S[k]? = some (.lst xs) ∧ P (.loc S.length) (S ++ [.lst (cutA xs lo hi)]) := rfl
theorem sl_scr {ns lo hi} : wSlice (.scr ns) lo hi S P = P (.loc S.length) (S ++ [.lst ((cutA ns lo hi).map Va.int)]) := rfl
theorem sl_tupE {xs lo hi} : wSlice (.tup xs) lo hi S P = (¬ (HT.sIx xs.length 0 lo = 0 ∧ HT.sIx xs.length xs.length hi = xs.length) ∧ P (.tup (cutA xs lo hi)) S) := rfl
theorem sl_strE {z lo hi} : wSlice (.str z) lo hi S P = (z.length ≤ sizeLine ∧ P (.str (L2.cutS z lo hi)) S) := rfl
theorem cat_lst {xs y} : wBin .add (.lst xs) y S P = ∃ b, LV S (.lst xs) b ∧ ∃ ys, LV S y ys ∧ b.length + ys.length ≤ 1000000 ∧ P (.loc S.length) (S ++ [.lst (b ++ ys)]) := rfl
theorem cat_loc {k y} : wBin .add (.loc k) y S P = ∃ b, LV S (.loc k) b ∧ ∃ ys, LV S y ys ∧ b.length + ys.length ≤ 1000000 ∧ P (.loc S.length) (S ++ [.lst (b ++ ys)]) := rfl
theorem cat_tup {xs ys} : wBin .add (.tup xs) (.tup ys) S P = (xs ≠ [] ∧ xs.length + ys.length ≤ 1000000 ∧ P (.tup (xs ++ ys)) S) := rfl
theorem wLen_scr {ns} : wLen (.scr ns) S P = P (.int ns.length) S := rfl
theorem wLen_loc {k} : wLen (.loc k) S P = ∃ xs, S[k]? = some (.lst xs) ∧ P (.int xs.length) S := rfl
theorem wLen_str {x} : wLen (.str x) S P = (x.length ≤ sizeLine ∧ P (.int x.length) S) := rfl
theorem wSub_scr {ns i} : wSub (.scr ns) (.int i) S P = ∃ n, L2.atI ns i = some n ∧ P (.int n) S := rfl
theorem wSub_loc {k i} : wSub (.loc k) (.int i) S P = ∃ xs, S[k]? = some (.lst xs) ∧ ∃ v, L2.atI xs i = some v ∧ P v S := rfl
theorem wSub_str {z i} : wSub (.str z) (.int i) S P = ∃ c, z.length ≤ sizeLine ∧ L2.atI z.cps.toList i = some c ∧ P (.str ⟨#[c]⟩) S := rfl
theorem aug_add {n m : Int} : augI .add n m = some (n + m) := rfl
theorem aug_sub {n m : Int} : augI .sub n m = some (n - m) := rfl
theorem tru_lst {xs} : tru S (.lst xs) = some (!xs.isEmpty) := rfl
theorem tru_tup {xs} : tru S (.tup xs) = some (!xs.isEmpty) := rfl
theorem tru_non : tru S .non = some false := rfl
theorem tru_loc {k xs} (h : S[k]? = some (.lst xs)) : tru S (.loc k) = some (!xs.isEmpty) := by simp only [tru, h]
theorem ty_loc {k xs t} (h : S[k]? = some (.lst xs)) : tyIs S (.loc k) t = some (t == .list) := by simp only [tyIs, h]
theorem ty_scr_list {ns} : tyIs S (.scr ns) .list = some true := rfl
end
/-! ### places in the store -/
section
variable {S l : Sto} {i : Nat} {o : Ob}
theorem sg_p0 : (S ++ l)[S.length]? = l[0]? := by
  rw [List.getElem?_append_right (Nat.le_refl _), Nat.sub_self]
theorem sg_pl : (S ++ l)[S.length + i]? = l[i]? := by
  rw [List.getElem?_append_right (Nat.le_add_right _ _), Nat.add_sub_cancel_left]
theorem ss_p0 : (S ++ l).set S.length o = S ++ l.set 0 o := by
  rw [List.set_append_right _ _ (Nat.le_refl _), Nat.sub_self]
theorem ss_pl : (S ++ l).set (S.length + i) o = S ++ l.set i o := by
  rw [List.set_append_right _ _ (Nat.le_add_right _ _), Nat.add_sub_cancel_left]
end
theorem ob_set0 {o u : Ob} {r : Sto} : List.set (o :: r) 0 u = u :: r := rfl
theorem ob_setS {o u : Ob} {r : Sto} {i : Nat} : List.set (o :: r) (i + 1) u = o :: List.set r i u := rfl
theorem ob_set1 {o o1 u : Ob} {r : Sto} : List.set (o :: o1 :: r) 1 u = o :: u :: r := rfl
theorem ob_set2 {o o1 o2 u : Ob} {r : Sto} : List.set (o :: o1 :: o2 :: r) 2 u = o :: o1 :: u :: r := rfl
theorem ob_set3 {o o1 o2 o3 u : Ob} {r : Sto} : List.set (o :: o1 :: o2 :: o3 :: r) 3 u = o :: o1 :: o2 :: u :: r := rfl
theorem ob_g0 {o : Ob} {r : Sto} : (o :: r)[0]? = some o := rfl
theorem ob_g1 {o o1 : Ob} {r : Sto} : (o :: o1 :: r)[1]? = some o1 := rfl
theorem ob_g2 {o o1 o2 : Ob} {r : Sto} : (o :: o1 :: o2 :: r)[2]? = some o2 := rfl
theorem ob_g3 {o o1 o2 o3 : Ob} {r : Sto} : (o :: o1 :: o2 :: o3 :: r)[3]? = some o3 := rfl
/-! ### small places -/
theorem at_0 {x0 : Va} {xs : List Va} : L2.atI (x0 :: xs) 0 = some x0 := L2.atI_nat (j := 0) rfl
theorem at_1 {x0 x1 : Va} {xs : List Va} : L2.atI (x0 :: x1 :: xs) 1 = some x1 := L2.atI_nat (j := 1) rfl
theorem at_2 {x0 x1 x2 : Va} {xs : List Va} : L2.atI (x0 :: x1 :: x2 :: xs) 2 = some x2 := L2.atI_nat (j := 2) rfl
theorem at_3 {x0 x1 x2 x3 : Va} {xs : List Va} : L2.atI (x0 :: x1 :: x2 :: x3 :: xs) 3 = some x3 := L2.atI_nat (j := 3) rfl
theorem at_4 {x0 x1 x2 x3 x4 : Va} {xs : List Va} : L2.atI (x0 :: x1 :: x2 :: x3 :: x4 :: xs) 4 = some x4 := L2.atI_nat (j := 4) rfl
theorem at_5 {x0 x1 x2 x3 x4 x5 : Va} {xs : List Va} : L2.atI (x0 :: x1 :: x2 :: x3 :: x4 :: x5 :: xs) 5 = some x5 := L2.atI_nat (j := 5) rfl
theorem ix_1_0 : L2.ixN 1 0 = some 0 := rfl
theorem ix_2_0 : L2.ixN 2 0 = some 0 := rfl
theorem ix_2_1 : L2.ixN 2 1 = some 1 := rfl
theorem ix_3_0 : L2.ixN 3 0 = some 0 := rfl
theorem ix_3_1 : L2.ixN 3 1 = some 1 := rfl
theorem ix_3_2 : L2.ixN 3 2 = some 2 := rfl
theorem ix_4_0 : L2.ixN 4 0 = some 0 := rfl
theorem ix_4_1 : L2.ixN 4 1 = some 1 := rfl
theorem ix_4_2 : L2.ixN 4 2 = some 2 := rfl
theorem ix_4_3 : L2.ixN 4 3 = some 3 := rfl
theorem va_s0 {x v : Va} {r : List Va} : List.set (x :: r) 0 v = v :: r := rfl
theorem va_s1 {x x1 v : Va} {r : List Va} : List.set (x :: x1 :: r) 1 v = x :: v :: r := rfl
theorem va_s2 {x x1 x2 v : Va} {r : List Va} : List.set (x :: x1 :: x2 :: r) 2 v = x :: x1 :: v :: r := rfl
theorem va_s3 {x x1 x2 x3 v : Va} {r : List Va} : List.set (x :: x1 :: x2 :: x3 :: r) 3 v = x :: x1 :: x2 :: v :: r := rfl
/-! ### without places -/
mutual
def pl : Va → Bool
  | .tup xs => pls xs
  | .lst xs => pls xs
  | .dct xs => plk xs
  | .loc _ => false
  | .non => true
  | .bl _ => true
  | .int _ => true
  | .str _ => true
  | .scr _ => true
def pls : List Va → Bool
  | [] => true
  | x :: xs => pl x && pls xs
def plk : List (Key × Va) → Bool
  | [] => true
  | (_, x) :: xs => pl x && plk xs
end
section
variable {S : Sto} {n : Nat}
mutual
theorem fz_pl : ∀ {v : Va}, pl v = true → Fz S n v v
  | .tup xs, h => ⟨xs, rfl, fzs_pl h⟩
  | .lst xs, h => ⟨xs, .inl rfl, fzs_pl h⟩
  | .dct xs, h => ⟨xs, .inl rfl, fzk_pl h⟩
  | .loc _, h => by cases h
  | .non, _ => rfl
  | .bl _, _ => rfl
  | .int _, _ => rfl
  | .str _, _ => rfl
  | .scr _, _ => rfl
theorem fzs_pl : ∀ {v : List Va}, pls v = true → Fzs S n v v
  | [], _ => rfl
  | x :: xs, h => by
    obtain ⟨h1, h2⟩ := Bool.and_eq_true_iff.mp h
    exact ⟨x, xs, rfl, fz_pl h1, fzs_pl h2⟩
theorem fzk_pl : ∀ {v : List (Key × Va)}, plk v = true → Fzk S n v v
  | [], _ => rfl
  | (k, x) :: xs, h => by
    obtain ⟨h1, h2⟩ := Bool.and_eq_true_iff.mp h
    exact ⟨x, xs, rfl, fz_pl h1, fzk_pl h2⟩
end
end
theorem pls_iff : ∀ {xs : List Va}, pls xs = true ↔ ∀ x ∈ xs, pl x = true
  | [] => by simp [pls]
  | x :: xs => by simp [pls, pls_iff (xs := xs)]
/-- a value without places, the store as at the start -/
theorem fin_val {S : Sto} {N : Sto} {P : PV} {v : Va} (hv : pl v = true) (h : P v S) : fin S P v (S ++ N) := fin_pure (fz_pl hv) h
/-- a list made here -/
theorem fin_lst {S : Sto} {N : Sto} {P : PV} {i : Nat} {xs : List Va} (hg : N[i]? = some (.lst xs)) (hv : pls xs = true) (h : P (.lst xs) S) : fin S P (.loc (S.length + i)) (S ++ N) :=
  fin_pure (v' := .lst xs) ⟨xs, .inr ⟨_, rfl, Nat.le_add_right _ _, by rw [sg_pl]; exact hg⟩, fzs_pl hv⟩ h
theorem fin_lst0 {S : Sto} {N : Sto} {P : PV} {xs : List Va} (hg : N[0]? = some (.lst xs)) (hv : pls xs = true) (h : P (.lst xs) S) : fin S P (.loc S.length) (S ++ N) :=
  fin_lst (i := 0) hg hv h
theorem finX_cut {S : Sto} {N : Sto} {E : PX} {x : Str} (h : E x S) : finX S E x (S ++ N) :=
  ⟨S, .inr ⟨by simp, by simp, fun i o hi e => .inl (by rw [List.getElem?_append_left hi] at e; exact e)⟩, h⟩
/-! ### walks by a word -/
section
variable {C : Orc}
theorem frL_ix {bind : Va → Env → Sto → Option Env} {b : PE_ → Env → Sto → Prop} {G : Sto → Prop} {nx : PE_} (hb : ∀ Γ S (N N' : PE_), (∀ Γ S, N Γ S → N' Γ S) → b N Γ S → b N' Γ S) {xs : List Va} (I : Nat → Env → Sto → Prop)
    (hs : ∀ i x Γ S, xs[i]? = some x → I i Γ S → ∃ Γ1, bind x Γ S = some Γ1 ∧ b (fun Γ' S' => G S' ∧ I (i + 1) Γ' S') Γ1 S) (hd : ∀ Γ S, I xs.length Γ S → nx Γ S) : ∀ {Γ S}, I 0 Γ S → frL bind b G nx xs Γ S := by
  have key : ∀ (m i : Nat) (Γ : Env) (S : Sto), i + m = xs.length → I i Γ S → frL bind b G nx (xs.drop i) Γ S := by
    intro m
    induction m with
    | zero =>
      intro i Γ S hi h
      rw [List.drop_eq_nil_of_le (by omega)]
      have e : i = xs.length := by omega
      subst e
      exact hd Γ S h
    | succ m ih =>
      intro i Γ S hi h
      have hlt : i < xs.length := by omega
      rw [List.drop_eq_getElem_cons hlt]
      obtain ⟨Γ1, h1, h2⟩ := hs i xs[i] Γ S (by simp [hlt]) h
      exact ⟨Γ1, h1, hb _ _ _ _ (fun Γ' S' ⟨g, z⟩ => ⟨g, ih (i + 1) Γ' S' (by omega) z⟩) h2⟩
  intro Γ S h
  exact key xs.length 0 Γ S (by omega) h
/-- a for by a word of the turn's number -/
theorem for_ix (hC : OrcMono C) {tg : Tg} {b : Sms} {D : AEnds} {G : Sto → Prop} {xs : List Va} {Γ : Env} {S : Sto} (I : Nat → Env → Sto → Prop) (h0 : I 0 Γ S)
    (hs : ∀ i x Γ S, xs[i]? = some x → I i Γ S → ∃ Γ1, bindT S tg x Γ = some Γ1 ∧ WSs C b { D with nx := fun Γ' S' => G S' ∧ I (i + 1) Γ' S', ct := fun Γ' S' => G S' ∧ I (i + 1) Γ' S', bk := D.nx } Γ1 S) (hd : ∀ Γ S, I xs.length Γ S → D.nx Γ S) :
    forB C tg b D G xs Γ S :=
  frL_ix (nx := D.nx) (fun Γ S N N' hN q => WSs_mono hC b { D with nx := N, ct := N, bk := D.nx } { D with nx := N', ct := N', bk := D.nx } Γ S ⟨hN, fun _ _ z => z, fun _ _ z => z, hN, fun _ _ _ z => z⟩ q) I hs hd h0
/-- a comprehension whose parts leave the store as it is -/
theorem cpL_map (hC : OrcMono C) {own : List Nat} {elt : Ex} {tg : Tg} {cond : Tes0} {G : Sto → Prop} {Γ : Env} {S1 : Sto} {P : PV} {xs : List Va} (f : Va → Option Va) (hn : xs.length ≤ 1000000) (hG : ∀ acc, G (S1 ++ [.lst acc]))
    (h : ∀ x ∈ xs, ∀ acc, ∃ Γ1, bindT (S1 ++ [.lst acc]) tg x (wipeA Γ own) = some Γ1 ∧ WT0 C cond Γ1 (S1 ++ [.lst acc]) fun b S2 => S2 = S1 ++ [.lst acc] ∧ match f x with
      | some v => b = true ∧ W C elt Γ1 (S1 ++ [.lst acc]) (fun v' S3 => v' = v ∧ S3 = S1 ++ [.lst acc]) (fun _ _ => False)
      | none => b = false) (hP : P (.loc S1.length) (S1 ++ [.lst (xs.filterMap f)])) :
    cpB C own elt tg cond G S1.length P xs Γ (S1 ++ [.lst []]) := by
  have key : ∀ (ys : List Va) (acc : List Va), (∀ x ∈ ys, x ∈ xs) → acc.length + ys.length ≤ 1000000 → P (.loc S1.length) (S1 ++ [.lst (acc ++ ys.filterMap f)]) →
      cpL (fun x S => bindT S tg x (wipeA Γ own)) (fun Γ S Q => WT0 C cond Γ S Q) (fun Γ S Q => W C elt Γ S Q (fun _ _ => False)) G S1.length P ys (S1 ++ [.lst acc]) := by
    intro ys
    induction ys with
    | nil =>
      intro acc _ _ hp
      rw [List.filterMap_nil, List.append_nil] at hp
      exact hp
    | cons y ys ih =>
      intro acc hin hl hp
      rw [List.length_cons] at hl
      obtain ⟨Γ1, h1, h2⟩ := h y (hin y List.mem_cons_self) acc
      refine ⟨Γ1, h1, WT0_mono hC cond _ _ _ _ (fun b S2 q => ?_) h2⟩
      obtain ⟨e, q⟩ := q
      rw [e]
      cases hf : f y with
      | some v =>
        rw [hf] at q
        obtain ⟨hb, q⟩ := q
        rw [hb, if_pos rfl]
        refine W_mono hC elt _ _ _ _ _ _ (fun v' S3 ⟨e1, e2⟩ => ?_) (fun _ _ z => z) q
        rw [e1, e2]
        have e3 : (S1 ++ [Ob.lst acc]).set S1.length (.lst (acc ++ [v])) = S1 ++ [.lst (acc ++ [v])] := by rw [ss_p0]; rfl
        refine ⟨acc, by rw [sg_p0]; rfl, by omega, by rw [e3]; exact hG _, ?_⟩
        rw [e3]
        refine ih _ (fun x hx => hin x (List.mem_cons_of_mem _ hx)) (by simp; omega) ?_
        rw [List.filterMap_cons_some hf] at hp
        simpa using hp
      | none =>
        rw [hf] at q
        rw [q, if_neg (by decide)]
        refine ⟨hG _, ih _ (fun x hx => hin x (List.mem_cons_of_mem _ hx)) (by omega) ?_⟩
        rw [List.filterMap_cons_none hf] at hp
        exact hp
  exact key xs [] (fun _ z => z) (by simpa using hn) (by simpa using hP)
end
theorem rangeV_get {lo : Int} {n i : Nat} {x : Va} (h : (rangeV lo n)[i]? = some x) : i < n ∧ x = .int (lo + i) := by
  have hi : i < n := by
    have := L2.atI_nat (j := i) h
    have := lt_of_get h
    simpa [rangeV] using this
  unfold rangeV at h
  rw [List.getElem?_map, List.getElem?_range hi] at h
  exact ⟨hi, by cases h; rfl⟩
theorem rangeV_len {lo : Int} {n : Nat} : (rangeV lo n).length = n := by simp [rangeV]
end AM
end

section
set_option linter.all false
set_option maxRecDepth 100000
set_option maxHeartbeats 4000000
/-! AM, tenth part: data held against data; lists wherever they stand. -/
namespace AM
open PySem L2
mutual
/-- plain data -/
def dat : Va → Bool
  | .non => true
  | .bl _ => true
  | .int _ => true
  | .str x => PyData.strOk x
  | .tup xs => dats xs
  | .lst xs => dats xs
  | .dct _ => false
  | .loc _ => false
  | .scr _ => false
def dats : List Va → Bool
  | [] => true
  | x :: xs => dat x && dats xs
end
mutual
def pd : Va → PyData
  | .non => .none
  | .bl b => .bool b
  | .int i => .int i
  | .str x => .str x
  | .tup xs => .tuple (pds xs)
  | .lst xs => .list (pds xs)
  | .dct _ => .none
  | .loc _ => .none
  | .scr _ => .none
def pds : List Va → List PyData
  | [] => []
  | x :: xs => pd x :: pds xs
end
mutual
def dep : Va → Nat
  | .tup xs => deps xs + 1
  | .lst xs => deps xs + 1
  | .non => 0
  | .bl _ => 0
  | .int _ => 0
  | .str _ => 0
  | .dct _ => 0
  | .loc _ => 0
  | .scr _ => 0
def deps : List Va → Nat
  | [] => 0
  | x :: xs => max (dep x) (deps xs)
end
section
variable {S : Sto}
mutual
theorem dv_pd : ∀ {v : Va}, dat v = true → DV S v (pd v)
  | .non, _ => .non
  | .bl b, _ => .bl b
  | .int i, _ => .int i
  | .str x, _ => .str x
  | .tup xs, h => .tup (dvs_pd h)
  | .lst xs, h => .lst (dvs_pd h)
  | .dct _, h => by cases h
  | .loc _, h => by cases h
  | .scr _, h => by cases h
theorem dvs_pd : ∀ {v : List Va}, dats v = true → DVs S v (pds v)
  | [], _ => .nil
  | x :: xs, h => .cons (dv_pd (Bool.and_eq_true_iff.mp h).1) (dvs_pd (Bool.and_eq_true_iff.mp h).2)
end
end
mutual
theorem pd_lay : ∀ {v : Va}, dat v = true → PyData.canLay0 (pd v) = true ∧ (pd v).depth = dep v
  | .non, _ => by simp [pd, dep, PyData.canLay0, PyData.depth]
  | .bl b, _ => by simp [pd, dep, PyData.canLay0, PyData.depth]
  | .int i, _ => by simp [pd, dep, PyData.canLay0, PyData.depth]
  | .str x, h => by simp [pd, dep, PyData.canLay0, PyData.depth]; exact h
  | .tup xs, h => by
    obtain ⟨h1, h2⟩ := pds_lay (v := xs) h
    simp [pd, dep, PyData.canLay0, PyData.depth, h1, h2]
  | .lst xs, h => by
    obtain ⟨h1, h2⟩ := pds_lay (v := xs) h
    simp [pd, dep, PyData.canLay0, PyData.depth, h1, h2]
  | .dct _, h => by cases h
  | .loc _, h => by cases h
  | .scr _, h => by cases h
theorem pds_lay : ∀ {v : List Va}, dats v = true → PyData.canLayAll0 (pds v) = true ∧ PyData.depthAll (pds v) = deps v
  | [], _ => by simp [pds, deps, PyData.canLayAll0, PyData.depthAll]
  | x :: xs, h => by
    obtain ⟨h1, h2⟩ := pd_lay (v := x) (Bool.and_eq_true_iff.mp h).1
    obtain ⟨h3, h4⟩ := pds_lay (v := xs) (Bool.and_eq_true_iff.mp h).2
    simp [pds, deps, PyData.canLayAll0, PyData.depthAll, h1, h2, h3, h4]
end
theorem pd_shaped {v : Va} (h : dat v = true) (h2 : dep v ≤ 64) : SeqAt.shaped (pd v) = true := by
  obtain ⟨h3, h4⟩ := pd_lay h
  unfold SeqAt.shaped
  rw [h3, h4, decide_eq_true h2]; rfl
mutual
theorem eqv_self : ∀ {v : Va}, dat v = true → PyData.eqv (pd v) (pd v) = true
  | .non, _ => by simp [pd, PyData.eqv]
  | .bl b, _ => by simp [pd, PyData.eqv]
  | .int i, _ => by simp [pd, PyData.eqv]
  | .str x, _ => by simp [pd, PyData.eqv]
  | .tup xs, h => by simp [pd, PyData.eqv, eqvs_self (v := xs) h]
  | .lst xs, h => by simp [pd, PyData.eqv, eqvs_self (v := xs) h]
  | .dct _, h => by cases h
  | .loc _, h => by cases h
  | .scr _, h => by cases h
theorem eqvs_self : ∀ {v : List Va}, dats v = true → PyData.eqvAll (pds v) (pds v) = true
  | [], _ => by simp [pds, PyData.eqvAll]
  | x :: xs, h => by
    simp [pds, PyData.eqvAll, eqv_self (v := x) (Bool.and_eq_true_iff.mp h).1, eqvs_self (v := xs) (Bool.and_eq_true_iff.mp h).2]
end
theorem dats_iff : ∀ {xs : List Va}, dats xs = true ↔ ∀ x ∈ xs, dat x = true
  | [] => by simp [dats]
  | x :: xs => by simp [dats, dats_iff (xs := xs)]
theorem deps_le {n : Nat} : ∀ {xs : List Va}, (∀ x ∈ xs, dep x ≤ n) → deps xs ≤ n
  | [], _ => Nat.zero_le _
  | x :: xs, h => Nat.max_le.mpr ⟨h x List.mem_cons_self, deps_le fun y hy => h y (List.mem_cons_of_mem _ hy)⟩
section
variable {S : Sto} {v y z : Va} {xs ys : List Va} {P : PV} {I : PI_}
theorem LV.dv (h : LV S v xs) (hd : dats xs = true) : DV S v (pd (.lst xs)) := by
  rcases h with rfl | ⟨k, rfl, hk⟩
  · exact dv_pd (v := .lst xs) hd
  · exact .loc hk (dvs_pd hd)
theorem eq_by {d : Va} (hx : DV S y (pd d)) (hy : DV S z (pd d)) (h1 : dat d = true) (h2 : dep d ≤ 64) (h : P (.bl true) S) : wCmp .eq y z S P := by
  simp only [wCmp]
  exact .inr ⟨_, _, hx, hy, pd_shaped h1 h2, pd_shaped h1 h2, by rw [eqv_self h1]; exact h⟩
theorem ne_by {d : Va} (hx : DV S y (pd d)) (hy : DV S z (pd d)) (h1 : dat d = true) (h2 : dep d ≤ 64) (h : P (.bl false) S) : wCmp .ne y z S P := by
  simp only [wCmp]
  exact .inr ⟨_, _, hx, hy, pd_shaped h1 h2, pd_shaped h1 h2, by rw [eqv_self h1]; exact h⟩
/-- a walk of a list that stands, through stores that keep what stood -/
theorem LV.seq (h : LV S v xs) (hI : ∀ G : Sto → Prop, (∀ S', (∀ (k : Nat) (o : Ob), S[k]? = some o → S'[k]? = some o) → G S') → I xs G S) : wSeq v S I := by
  rcases h with rfl | ⟨k, rfl, hk⟩
  · exact hI _ fun _ _ => trivial
  · exact ⟨xs, hk, hI _ fun S' h => h k _ hk⟩
theorem LV.wlst (h : LV S v xs) (hI : ∀ G : Sto → Prop, (∀ S', (∀ (k : Nat) (o : Ob), S[k]? = some o → S'[k]? = some o) → G S') → I xs G S) : wLst v S I := by
  rcases h with rfl | ⟨k, rfl, hk⟩
  · exact hI _ fun _ _ => trivial
  · exact ⟨xs, hk, hI _ fun S' h => h k _ hk⟩
theorem LV.list (h : LV S v xs) (hp : P (.loc S.length) (S ++ [.lst xs])) : wBlt .list [v] S P := by
  rcases h with rfl | ⟨k, rfl, hk⟩
  · exact hp
  · exact ⟨xs, hk, hp⟩
theorem LV.tuple (h : LV S v xs) (hp : P (.tup xs) S) : wBlt .tuple [v] S P := by
  rcases h with rfl | ⟨k, rfl, hk⟩
  · exact hp
  · exact ⟨xs, hk, hp⟩
theorem LV.len (h : LV S v xs) (hp : P (.int xs.length) S) : wLen v S P := by
  rcases h with rfl | ⟨k, rfl, hk⟩
  · exact hp
  · exact ⟨xs, hk, hp⟩
theorem LV.cat (h : LV S v xs) (h' : LV S y ys) (hl : xs.length + ys.length ≤ 1000000) (hp : P (.loc S.length) (S ++ [.lst (xs ++ ys)])) : wBin .add v y S P := by
  rcases h with rfl | ⟨k, rfl, hk⟩
  · exact ⟨xs, .inl rfl, ys, h', hl, hp⟩
  · exact ⟨xs, .inr ⟨k, rfl, hk⟩, ys, h', hl, hp⟩
theorem LV.slice {lo hi : Option Int} (h : LV S v xs) (hp : P (.loc S.length) (S ++ [.lst (cutA xs lo hi)])) : wSlice v lo hi S P := by
  rcases h with rfl | ⟨k, rfl, hk⟩
  · exact hp
  · exact ⟨xs, hk, hp⟩
theorem LV.sub {i : Int} {u : Va} (h : LV S v xs) (hi : L2.atI xs i = some u) (hp : P u S) : wSub v (.int i) S P := by
  rcases h with rfl | ⟨k, rfl, hk⟩
  · exact ⟨u, hi, hp⟩
  · exact ⟨xs, hk, u, hi, hp⟩
theorem LV.ty {t : Ty} (h : LV S v xs) : tyIs S v t = some (t == .list) := by
  rcases h with rfl | ⟨k, rfl, hk⟩
  · rfl
  · exact ty_loc hk
theorem LV.tru (h : LV S v xs) : AM.tru S v = some (!xs.isEmpty) := by
  rcases h with rfl | ⟨k, rfl, hk⟩
  · rfl
  · exact tru_loc hk
theorem LV.parts (h : LV S v xs) : partsOf S v = some xs := by
  rcases h with rfl | ⟨k, rfl, hk⟩
  · rfl
  · simp only [partsOf, hk]
theorem LV.bind {ts : Tgs} {Γ : Env} (h : LV S v xs) : bindT S (.tup ts) v Γ = bindTs S ts xs Γ := by
  simp only [bindT, h.parts]
/-- .. in a longer store -/
theorem LV.more (h : LV S v xs) (N : Sto) : LV (S ++ N) v xs := by
  rcases h with rfl | ⟨k, rfl, hk⟩
  · exact .inl rfl
  · exact .inr ⟨k, rfl, by rw [List.getElem?_append_left (lt_of_get hk)]; exact hk⟩
theorem LV.here {xs : List Va} {N : Sto} : LV (S ++ (.lst xs :: N)) (.loc S.length) xs := .inr ⟨_, rfl, by rw [sg_p0]; rfl⟩
theorem LV.at {i : Nat} {N : Sto} (h : N[i]? = some (.lst xs)) : LV (S ++ N) (.loc (S.length + i)) xs := .inr ⟨_, rfl, by rw [sg_pl]; exact h⟩
theorem kept_app {N : Sto} : ∀ (k : Nat) (o : Ob), S[k]? = some o → (S ++ N)[k]? = some o := fun k o h => by
  rw [List.getElem?_append_left (lt_of_get h)]; exact h
end
end AM
end

section
set_option linter.all false
set_option maxRecDepth 100000
set_option maxHeartbeats 1000000
/-! Fractions: the defs of shares.py keep their promises. -/
open PySem
namespace AM
def f_divisor : Fn := ⟨["one", "other"], ["one", "other", "rest"],
  (.cons (.set 0 (.abs (.var 0)))
  (.cons (.set 1 (.abs (.var 1)))
  (.cons (.whil (.val (.cmp .ne (.var 1) (.int 0))) (.cons (.set 2 (.bin .mod (.var 0) (.var 1)))
  (.cons (.set 0 (.var 1))
  (.cons (.set 1 (.var 2))
  .nil))))
  (.cons (.ret (.var 0))
  .nil))))⟩
def f_fraction : Fn := ⟨["top", "bottom"], ["top", "bottom", "both"],
  (.cons (.ite (.val (.cmp .eq (.var 1) (.int 0))) (.cons (.raise "NoFraction")
  .nil) .nil)
  (.cons (.set 2 (.call "divisor" (.cons (.var 0) (.cons (.var 1) .nil))))
  (.cons (.ite (.val (.cmp .lt (.var 1) (.int 0))) (.cons (.set 2 (.neg (.var 2)))
  .nil) .nil)
  (.cons (.ret (.tup (.cons (.bin .fdiv (.var 0) (.var 2)) (.cons (.bin .fdiv (.var 1) (.var 2)) .nil))))
  .nil))))⟩
end AM
namespace FR
open PySem AM
local macro_rules | `(tactic| walk_at "am") => `(tactic| try simp only [st_set0, st_setS, iteTrue, iteFalse, iteDec, iteNDec, exSome, exBl, W_var, W_int, W_bl, W_non, W_str, W_tup, W_lst, W_bin, W_neg, W_cmp, W_isN, W_notN, W_chain, W_tst, W_ite, W_call, W_len, W_abs, W_isi, W_sub, WT_val, WT_not, WT_and, WT_or, WA_one, WA_cons, WO_one, WO_cons, WB_val, WB_not, WB_and, WB_or, WBA_one, WBA_cons, WBO_one, WBO_cons, WL_nil, WL_cons, WS_set, WS_ret, WS_retN, WS_pass, WS_brk, WS_cont, WS_drop, WS_ite, WS_raise, WSs_nil, Ss_set, Ss_ret, Ss_retN, Ss_pass, Ss_brk, Ss_cont, Ss_drop, Ss_raise, Ss_ite_ret, Ss_ite_retN, Ss_ite_raise, Ss_ite_cont, Ss_ite_brk, Ss_ite_last, gt_0, gt_S, wAdd_int, wSub_int, wMul_int, wDiv_int, wMod_int, wPow_int, wAdd_str, wNeg_int, wAbs_int, wLt_int, wLe_int, wGt_int, wGe_int, wEq_int, wNe_int, wEq_bl, wNe_bl, wEq_str, wNe_str, wLen_tup, wLen_lst, tru_bl, tru_int, ty_int_int, ty_int_bool, ty_int_str, ty_int_tuple, ty_int_list, ty_int_dict, ty_bl_int, ty_bl_bool, ty_bl_str, ty_bl_tuple, ty_bl_list, ty_bl_dict, ty_str_int, ty_str_bool, ty_str_str, ty_str_tuple, ty_str_list, ty_str_dict, ty_tup_int, ty_tup_bool, ty_tup_str, ty_tup_tuple, ty_tup_list, ty_tup_dict, ty_lst_int, ty_lst_bool, ty_lst_str, ty_lst_tuple, ty_lst_list, ty_lst_dict, ty_dct_int, ty_dct_bool, ty_dct_str, ty_dct_tuple, ty_dct_list, ty_dct_dict, ty_non, sub_tup0, sub_tup1, sub_tup2, sub_tup3, sub_tup4, sub_tup5, sub_lst0, sub_lst1, sub_lst2, sub_lst3, sub_lst4, sub_lst5, startA, List.map_cons, List.map_nil, List.length_cons, List.length_nil, List.replicate, List.cons_append, List.nil_append, true_and, and_true, ne_eq, isNon, Bool.not_true, Bool.not_false, Bool.true_or, Bool.or_true, Bool.false_or, reduceIte, Nat.reduceAdd, Nat.zero_add, Int.cast_ofNat_Int, Int.reduceEq, Int.reduceLT, Int.reduceLE, Nat.reduceLeDiff, decide_true, decide_false, not_true_eq_false, not_false_eq_true, Nat.reduceSub, Int.reduceToNat, W_slice, W_blt, W_mth, W_comp, WOe_none, WOe_some, WI_seq, WI_range1, WI_range2, WI_enum, WI_zip, WI_rev, WT0_none, WT0_some, Ss_asg, Ss_setSub, Ss_aug, WS_asg, WS_aug, WS_for, Ss_setC, bT_name, bT_tup, bT_lst, bTs_nil, bTs_name, seq_lst, seq_tup, seq_scr, seq_str, seq_loc, lst_lst, lst_scr, lst_loc, exInt, exLoc, exLst, exLst1, exLV_lst, exLV_loc, mOk_app, mOk_pop, mOk_ext, mOk_ins, mOk_ind, mOk_join, mOk_indl, m_append, m_pop, m_extend, m_insert, m_join, b_listL, b_listT, b_listS, b_listK, b_tupL, b_tupT, b_tupK, b_max2, b_min2, b_ord, b_str, sl_lst, sl_loc, sl_scr, sl_tupE, sl_strE, cat_lst, cat_loc, cat_tup, wLen_scr, wLen_loc, wLen_str, wSub_scr, wSub_loc, wSub_str, aug_add, aug_sub, tru_lst, tru_tup, tru_non, ty_scr_list, sg_p0, sg_pl, ss_p0, ss_pl, ob_set0, ob_set1, ob_set2, ob_set3, ob_g0, ob_g1, ob_g2, ob_g3, List.append_assoc, List.length_append, List.nil_append, Nat.add_zero, Nat.add_assoc, Int.reduceNeg, wipeA, at_0, at_1, at_2, at_3, at_4, at_5, ix_1_0, ix_2_0, ix_2_1, ix_3_0, ix_3_1, ix_3_2, ix_4_0, ix_4_1, ix_4_2, ix_4_3, va_s0, va_s1, va_s2, va_s3])
local macro_rules | `(tactic| walk_at "if") => `(tactic| (try simp only []); rw [Ss_ite]; simp only [st_set0, st_setS, iteTrue, iteFalse, iteDec, iteNDec, exSome, exBl, W_var, W_int, W_bl, W_non, W_str, W_tup, W_lst, W_bin, W_neg, W_cmp, W_isN, W_notN, W_chain, W_tst, W_ite, W_call, W_len, W_abs, W_isi, W_sub, WT_val, WT_not, WT_and, WT_or, WA_one, WA_cons, WO_one, WO_cons, WB_val, WB_not, WB_and, WB_or, WBA_one, WBA_cons, WBO_one, WBO_cons, WL_nil, WL_cons, WS_set, WS_ret, WS_retN, WS_pass, WS_brk, WS_cont, WS_drop, WS_ite, WS_raise, WSs_nil, Ss_set, Ss_ret, Ss_retN, Ss_pass, Ss_brk, Ss_cont, Ss_drop, Ss_raise, Ss_ite_ret, Ss_ite_retN, Ss_ite_raise, Ss_ite_cont, Ss_ite_brk, Ss_ite_last, gt_0, gt_S, wAdd_int, wSub_int, wMul_int, wDiv_int, wMod_int, wPow_int, wAdd_str, wNeg_int, wAbs_int, wLt_int, wLe_int, wGt_int, wGe_int, wEq_int, wNe_int, wEq_bl, wNe_bl, wEq_str, wNe_str, wLen_tup, wLen_lst, tru_bl, tru_int, ty_int_int, ty_int_bool, ty_int_str, ty_int_tuple, ty_int_list, ty_int_dict, ty_bl_int, ty_bl_bool, ty_bl_str, ty_bl_tuple, ty_bl_list, ty_bl_dict, ty_str_int, ty_str_bool, ty_str_str, ty_str_tuple, ty_str_list, ty_str_dict, ty_tup_int, ty_tup_bool, ty_tup_str, ty_tup_tuple, ty_tup_list, ty_tup_dict, ty_lst_int, ty_lst_bool, ty_lst_str, ty_lst_tuple, ty_lst_list, ty_lst_dict, ty_dct_int, ty_dct_bool, ty_dct_str, ty_dct_tuple, ty_dct_list, ty_dct_dict, ty_non, sub_tup0, sub_tup1, sub_tup2, sub_tup3, sub_tup4, sub_tup5, sub_lst0, sub_lst1, sub_lst2, sub_lst3, sub_lst4, sub_lst5, startA, List.map_cons, List.map_nil, List.length_cons, List.length_nil, List.replicate, List.cons_append, List.nil_append, true_and, and_true, ne_eq, isNon, Bool.not_true, Bool.not_false, Bool.true_or, Bool.or_true, Bool.false_or, reduceIte, Nat.reduceAdd, Nat.zero_add, Int.cast_ofNat_Int, Int.reduceEq, Int.reduceLT, Int.reduceLE, Nat.reduceLeDiff, decide_true, decide_false, not_true_eq_false, not_false_eq_true, Nat.reduceSub, Int.reduceToNat, W_slice, W_blt, W_mth, W_comp, WOe_none, WOe_some, WI_seq, WI_range1, WI_range2, WI_enum, WI_zip, WI_rev, WT0_none, WT0_some, Ss_asg, Ss_setSub, Ss_aug, WS_asg, WS_aug, WS_for, Ss_setC, bT_name, bT_tup, bT_lst, bTs_nil, bTs_name, seq_lst, seq_tup, seq_scr, seq_str, seq_loc, lst_lst, lst_scr, lst_loc, exInt, exLoc, exLst, exLst1, exLV_lst, exLV_loc, mOk_app, mOk_pop, mOk_ext, mOk_ins, mOk_ind, mOk_join, mOk_indl, m_append, m_pop, m_extend, m_insert, m_join, b_listL, b_listT, b_listS, b_listK, b_tupL, b_tupT, b_tupK, b_max2, b_min2, b_ord, b_str, sl_lst, sl_loc, sl_scr, sl_tupE, sl_strE, cat_lst, cat_loc, cat_tup, wLen_scr, wLen_loc, wLen_str, wSub_scr, wSub_loc, wSub_str, aug_add, aug_sub, tru_lst, tru_tup, tru_non, ty_scr_list, sg_p0, sg_pl, ss_p0, ss_pl, ob_set0, ob_set1, ob_set2, ob_set3, ob_g0, ob_g1, ob_g2, ob_g3, List.append_assoc, List.length_append, List.nil_append, Nat.add_zero, Nat.add_assoc, Int.reduceNeg, wipeA, at_0, at_1, at_2, at_3, at_4, at_5, ix_1_0, ix_2_0, ix_2_1, ix_3_0, ix_3_1, ix_3_2, ix_4_0, ix_4_1, ix_4_2, ix_4_3, va_s0, va_s1, va_s2, va_s3])
/-! ### sizes -/
def B (n : Nat) (i : Int) : Prop := i.natAbs < 2 ^ n
theorem B.mono {m n : Nat} {i : Int} (h : B m i) (l : m ≤ n) : B n i := Nat.lt_of_lt_of_le h (Nat.pow_le_pow_right (by decide) l)
theorem B.mul {m n : Nat} {i j : Int} (h : B m i) (q : B n j) : B (m + n) (i * j) := by
  unfold B at *
  rw [Int.natAbs_mul, Nat.pow_add]
  exact Nat.mul_lt_mul'' h q
theorem B.add {n : Nat} {i j : Int} (h : B n i) (q : B n j) : B (n + 1) (i + j) := by
  unfold B at *
  rw [Nat.pow_succ]
  omega
theorem B.neg {n : Nat} {i : Int} (h : B n i) : B n (-i) := by
  unfold B at *
  rwa [Int.natAbs_neg]
theorem B.sub {n : Nat} {i j : Int} (h : B n i) (q : B n j) : B (n + 1) (i - j) := by
  rw [Int.sub_eq_add_neg]; exact h.add q.neg
theorem B.abs {n : Nat} {i : Int} (h : B n i) : B n (if i < 0 then -i else i) := by
  split
  · exact h.neg
  · exact h
theorem B.log {n : Nat} {i : Int} (h : B n i) (l : n ≤ 9000) : i.natAbs.log2 < 9000 := by
  by_cases h0 : i.natAbs = 0
  · rw [h0]; decide +kernel
  · exact (Nat.log2_lt h0).mpr (Nat.lt_of_lt_of_le h (Nat.pow_le_pow_right (by decide) l))
theorem B.lg {n : Nat} {i : Int} (h : B n i) : i.natAbs.log2 ≤ n := by
  by_cases h0 : i.natAbs = 0
  · rw [h0]; exact Nat.zero_le _
  · exact Nat.le_of_lt ((Nat.log2_lt h0).mpr h)
theorem B.cmul {m n : Nat} {i j : Int} (h : B m i) (q : B n j) (l : m + n ≤ 133000000) : CMulA i j := by
  have h1 := h.lg
  have h2 := q.lg
  unfold CMulA
  omega
theorem B.of_le {n : Nat} {i j : Int} (h : B n j) (l : i.natAbs ≤ j.natAbs) : B n i := Nat.lt_of_le_of_lt l h
theorem gcd_le {a b : Int} (hb : b ≠ 0) : Int.gcd a b ≤ b.natAbs := Nat.le_of_dvd (by omega) (Int.gcd_dvd_natAbs_right a b)

/-! ### divisor -/
theorem divisor_ok {T : Tab} {f : Str} {d : Fn} (hT : T f = some d) (hd : d.body = f_divisor.body) (hp : d.ps.length = 2) (hN : d.N.length = 3) (k : Nat) (a b : Int) {S : Sto} {P : PV} {E : PX} (h : P (.int (Int.gcd a b)) S) : call T (k + 1) f [.int a, .int b] S P E := by
  refine call_def hT hp.symm ?_
  rw [hd]
  unfold f_divisor
  simp only [startA_eq, hN]
  walk_at "am"
  refine wh_ix (call_mono T k) (fun (z : Int × Int × Option Va) => [some (.int z.1), some (.int z.2.1), z.2.2]) (fun z => 0 ≤ z.1 ∧ 0 ≤ z.2.1 ∧ Int.gcd z.1 z.2.1 = Int.gcd a b) (fun z => z.2.1.toNat) (if a < 0 then -a else a, if b < 0 then -b else b, none) ?_ ?_
  · refine ⟨?_, ?_, ?_⟩
    · show 0 ≤ (if a < 0 then -a else a); split <;> omega
    · show 0 ≤ (if b < 0 then -b else b); split <;> omega
    · show Int.gcd (if a < 0 then -a else a) (if b < 0 then -b else b) = _
      unfold Int.gcd
      have e : ∀ x : Int, (if x < 0 then -x else x).natAbs = x.natAbs := fun x => by split <;> simp
      rw [e, e]
  · rintro ⟨x, y, z⟩ ⟨h1, h2, h3⟩
    walk_at "am"
    simp only at h1 h2 h3
    split
    · rename_i hy
      subst hy
      refine fin_keep ?_
      have : x = ((Int.gcd a b : Nat) : Int) := by
        rw [← h3]; simp; omega
      rw [← this] at h
      exact h
    · rename_i hy
      refine ⟨hy, (y, x.fmod y, _), rfl, ⟨h2, ?_, ?_⟩, ?_⟩
      · rw [Int.fmod_eq_emod_of_nonneg x h2]; exact Int.emod_nonneg x hy
      · rw [← h3, Int.fmod_eq_emod_of_nonneg x h2]
        show Int.gcd y (x % y) = Int.gcd x y
        obtain ⟨m, rfl⟩ := Int.eq_ofNat_of_zero_le h1
        obtain ⟨n, rfl⟩ := Int.eq_ofNat_of_zero_le h2
        have e : ((m : Int) % (n : Int)) = ((m % n : Nat) : Int) := rfl
        rw [e, Int.gcd_natCast_natCast, Int.gcd_natCast_natCast, Nat.gcd_comm m n, Nat.gcd_rec n m, Nat.gcd_comm]
      · show (x.fmod y).toNat < y.toNat
        rw [Int.fmod_eq_emod_of_nonneg x h2]
        have := Int.emod_lt_of_pos x (show 0 < y by omega)
        omega
/-! ### fraction -/
def Qv (r : Rat) : Va := .tup [.int r.num, .int r.den]
theorem shape2 (a b : Int) : SeqAt.shaped (.tuple [.int a, .int b]) = true := by
  simp [SeqAt.shaped, PyData.canLay0, PyData.canLayAll0, PyData.depth, PyData.depthAll]
theorem dv_Q {S : Sto} {r : Rat} : DV S (Qv r) (.tuple [.int r.num, .int r.den]) := .tup (.cons (.int _) (.cons (.int _) .nil))
theorem dv_Q' {S : Sto} {r : Rat} {d : PyData} (h : DV S (Qv r) d) : d = .tuple [.int r.num, .int r.den] := by
  cases h with
  | tup q => cases q with
    | cons a q => cases q with
      | cons b q => cases q; cases a; cases b; rfl
theorem eqv_Q (r q : Rat) : PyData.eqv (.tuple [.int r.num, .int r.den]) (.tuple [.int q.num, .int q.den]) = decide (r = q) := by
  have e : (r = q) ↔ (r.num = q.num ∧ (r.den : Int) = (q.den : Int)) := ⟨fun h => by rw [h]; exact ⟨rfl, rfl⟩, fun h => Rat.ext h.1 (by exact_mod_cast h.2)⟩
  by_cases h : r = q
  · rw [decide_eq_true h]; subst h; simp [PyData.eqv, PyData.eqvAll]
  · rw [decide_eq_false h]
    have e2 := fun z => h (e.mpr z)
    by_cases h1 : r.num = q.num
    · have h2 : ¬ (r.den : Int) = (q.den : Int) := fun z => e2 ⟨h1, z⟩
      have h3 : ¬ r.den = q.den := fun z => h2 (by rw [z])
      simp [PyData.eqv, PyData.eqvAll, h1, h3]
      exact h2
    · simp [PyData.eqv, PyData.eqvAll, h1]
theorem eqQ {S : Sto} {P : PV} {r q : Rat} : wCmp .eq (Qv r) (Qv q) S P = P (.bl (decide (r = q))) S := by
  apply propext
  simp only [wCmp]
  constructor
  · rintro (⟨h, _⟩ | ⟨d, e, h1, h2, _, _, h⟩)
    · cases h
    · rw [dv_Q' h1, dv_Q' h2, eqv_Q] at h; exact h
  · exact fun h => .inr ⟨_, _, dv_Q, dv_Q, shape2 _ _, shape2 _ _, by rw [eqv_Q]; exact h⟩
theorem neQ {S : Sto} {P : PV} {r q : Rat} : wCmp .ne (Qv r) (Qv q) S P = P (.bl (!decide (r = q))) S := by
  apply propext
  simp only [wCmp]
  constructor
  · rintro (⟨h, _⟩ | ⟨d, e, h1, h2, _, _, h⟩)
    · cases h
    · rw [dv_Q' h1, dv_Q' h2, eqv_Q] at h; exact h
  · exact fun h => .inr ⟨_, _, dv_Q, dv_Q, shape2 _ _, shape2 _ _, by rw [eqv_Q]; exact h⟩
theorem divInt_num (a b : Int) (hb : b ≠ 0) : a.fdiv (if b < 0 then -(Int.gcd a b : Int) else (Int.gcd a b : Int)) = (Rat.divInt a b).num := by
  rw [Rat.num_divInt, Int.gcd_comm b a]
  obtain ⟨c, hc⟩ := Int.gcd_dvd_left (a := a) (b := b)
  have hg : (Int.gcd a b : Int) ≠ 0 := by
    intro z
    have z' : Int.gcd a b = 0 := by exact_mod_cast z
    rw [Int.gcd_eq_zero_iff] at z'
    exact hb z'.2
  generalize hG : (Int.gcd a b : Int) = g at *
  have gp : 0 < g := by
    have : 0 ≤ g := by rw [← hG]; exact Int.natCast_nonneg _
    omega
  rw [hc]
  by_cases h : b < 0
  · rw [if_pos h, Int.sign_eq_neg_one_of_neg h]
    have e1 : g * c = (-g) * (-c) := by rw [Int.neg_mul_neg]
    have e2 : (-1 : Int) * (g * c) = g * (-c) := by rw [Int.mul_neg]; omega
    rw [e2, Int.mul_ediv_cancel_left _ hg]
    rw [e1, Int.mul_fdiv_cancel_left _ (by omega)]
  · have hb' : 0 < b := by omega
    rw [if_neg h, Int.sign_eq_one_of_pos hb', Int.one_mul, Int.mul_ediv_cancel_left _ hg, Int.mul_fdiv_cancel_left _ hg]
theorem divInt_den (a b : Int) (hb : b ≠ 0) : b.fdiv (if b < 0 then -(Int.gcd a b : Int) else (Int.gcd a b : Int)) = ((Rat.divInt a b).den : Int) := by
  rw [Rat.den_divInt, if_neg hb, Int.gcd_comm b a]
  obtain ⟨c, hc⟩ := Int.gcd_dvd_right (a := a) (b := b)
  have hg : (Int.gcd a b : Int) ≠ 0 := by
    intro z
    have z' : Int.gcd a b = 0 := by exact_mod_cast z
    rw [Int.gcd_eq_zero_iff] at z'
    exact hb z'.2
  rw [Int.natCast_ediv]
  generalize hG : (Int.gcd a b : Int) = g at *
  have gp : 0 < g := by
    have : 0 ≤ g := by rw [← hG]; exact Int.natCast_nonneg _
    omega
  by_cases h : b < 0
  · have e3 : ((b.natAbs : Nat) : Int) = g * (-c) := by rw [Int.mul_neg, ← hc]; omega
    rw [if_pos h, e3, Int.mul_ediv_cancel_left _ hg]
    have e1 : b = (-g) * (-c) := by rw [Int.neg_mul_neg]; exact hc
    rw [e1, Int.mul_fdiv_cancel_left _ (by omega)]
  · have e3 : ((b.natAbs : Nat) : Int) = g * c := by rw [← hc]; omega
    rw [if_neg h, e3, Int.mul_ediv_cancel_left _ hg]
    have e1 : b = g * c := hc
    rw [e1, Int.mul_fdiv_cancel_left _ hg]
theorem fraction_ok {T : Tab} (h1 : T "divisor" = some f_divisor) (h2 : T "fraction" = some f_fraction) (k : Nat) (a b : Int) (hb : b ≠ 0) {n : Nat} (hs : B n b) (hn : n ≤ 9000) {S : Sto} {P : PV} {E : PX}
    (h : P (Qv (Rat.divInt a b)) S) : call T (k + 2) "fraction" [.int a, .int b] S P E := by
  refine call_def h2 rfl ?_
  unfold f_fraction
  walk_at "am"
  rw [if_neg hb]
  refine divisor_ok h1 rfl rfl rfl k a b ?_
  walk_at "if"
  have hg : Int.gcd a b ≠ 0 := by
    intro z
    rw [Int.gcd_eq_zero_iff] at z
    exact hb z.2
  have key : CDivA (if b < 0 then -(Int.gcd a b : Int) else (Int.gcd a b : Int)) := by
    refine ⟨by split <;> omega, B.log (n := n) (hs.of_le ?_) hn⟩
    have := gcd_le (a := a) hb
    split <;> simp <;> exact this
  have e1 := divInt_num a b hb
  have e2 := divInt_den a b hb
  split
  · rename_i hl
    rw [if_pos hl] at key e1 e2
    refine ⟨key, key, fin_keep ?_⟩
    rw [e1, e2]; exact h
  · rename_i hl
    rw [if_neg hl] at key e1 e2
    refine ⟨key, key, fin_keep ?_⟩
    rw [e1, e2]; exact h
/-! ### of a fraction's parts -/
theorem divInt_B {a b : Int} {n : Nat} (ha : B n a) (hb : B n b) (h0 : b ≠ 0) : B n (Rat.divInt a b).num ∧ B n ((Rat.divInt a b).den : Int) := by
  refine ⟨?_, ?_⟩
  · refine ha.of_le ?_
    rw [Rat.num_divInt]
    refine Nat.le_trans (Int.natAbs_ediv_le_natAbs _ _) ?_
    rw [Int.natAbs_mul, Int.natAbs_sign_of_ne_zero h0, Nat.one_mul]
    exact Nat.le_refl _
  · refine hb.of_le ?_
    rw [Rat.den_divInt, if_neg h0]
    exact Nat.div_le_self _ _
theorem den_ne (r : Rat) : (r.den : Int) ≠ 0 := by
  have := r.den_pos
  omega
theorem divInt_cross {a b : Int} (h0 : b ≠ 0) : (Rat.divInt a b).num * b = a * (Rat.divInt a b).den := by
  have h := Rat.num_divInt_den (Rat.divInt a b)
  exact (Rat.divInt_eq_divInt_iff (den_ne _) h0).mp h
end FR
end

section
set_option linter.all false
set_option maxRecDepth 100000
set_option maxHeartbeats 1000000
/-! The laws' own small defs. -/
open PySem
namespace AM
def f_l_cell_at : Fn := ⟨["_law_script", "_law_k"], ["_law_script", "_law_k"],
  (.cons (.ite (.val (.cmp .lt (.var 1) (.len (.var 0)))) (.cons (.ret (.sub (.var 0) (.var 1)))
  .nil) .nil)
  (.cons (.ret (.int 0))
  .nil))⟩
def f_l_whole : Fn := ⟨["_law_found"], ["_law_found"],
  (.cons (.ret (.tst (.and (.cons (.val (.isi (.var 0) .int)) (.one (.not (.val (.isi (.var 0) .bool))))))))
  .nil)⟩
def f_l_signed : Fn := ⟨["_law_cell", "_law_most"], ["_law_cell", "_law_most"],
  (.cons (.ite (.val (.cmp .eq (.bin .mod (.var 0) (.int 2)) (.int 1))) (.cons (.ret (.neg (.bin .mod (.bin .fdiv (.var 0) (.int 2)) (.var 1))))
  .nil) .nil)
  (.cons (.ret (.bin .mod (.bin .fdiv (.var 0) (.int 2)) (.var 1)))
  .nil))⟩
def f_l_is_fraction : Fn := ⟨["_law_found"], ["_law_found"],
  (.cons (.ite (.or (.cons (.not (.val (.isi (.var 0) .tuple))) (.one (.val (.cmp .ne (.len (.var 0)) (.int 2)))))) (.cons (.ret (.bl false))
  .nil) .nil)
  (.cons (.ite (.or (.cons (.not (.val (.call "_law_whole" (.cons (.sub (.var 0) (.int 0)) .nil)))) (.one (.not (.val (.call "_law_whole" (.cons (.sub (.var 0) (.int 1)) .nil))))))) (.cons (.ret (.bl false))
  .nil) .nil)
  (.cons (.ret (.tst (.and (.cons (.val (.cmp .ge (.sub (.var 0) (.int 1)) (.int 1))) (.one (.val (.cmp .eq (.call "_law_divisor" (.cons (.sub (.var 0) (.int 0)) (.cons (.sub (.var 0) (.int 1)) .nil))) (.int 1))))))))
  .nil)))⟩
end AM
namespace FR
open PySem AM
local macro_rules | `(tactic| walk_at "am") => `(tactic| try simp only [st_set0, st_setS, iteTrue, iteFalse, iteDec, iteNDec, exSome, exBl, W_var, W_int, W_bl, W_non, W_str, W_tup, W_lst, W_bin, W_neg, W_cmp, W_isN, W_notN, W_chain, W_tst, W_ite, W_call, W_len, W_abs, W_isi, W_sub, WT_val, WT_not, WT_and, WT_or, WA_one, WA_cons, WO_one, WO_cons, WB_val, WB_not, WB_and, WB_or, WBA_one, WBA_cons, WBO_one, WBO_cons, WL_nil, WL_cons, WS_set, WS_ret, WS_retN, WS_pass, WS_brk, WS_cont, WS_drop, WS_ite, WS_raise, WSs_nil, Ss_set, Ss_ret, Ss_retN, Ss_pass, Ss_brk, Ss_cont, Ss_drop, Ss_raise, Ss_ite_ret, Ss_ite_retN, Ss_ite_raise, Ss_ite_cont, Ss_ite_brk, Ss_ite_last, gt_0, gt_S, wAdd_int, wSub_int, wMul_int, wDiv_int, wMod_int, wPow_int, wAdd_str, wNeg_int, wAbs_int, wLt_int, wLe_int, wGt_int, wGe_int, wEq_int, wNe_int, wEq_bl, wNe_bl, wEq_str, wNe_str, wLen_tup, wLen_lst, tru_bl, tru_int, ty_int_int, ty_int_bool, ty_int_str, ty_int_tuple, ty_int_list, ty_int_dict, ty_bl_int, ty_bl_bool, ty_bl_str, ty_bl_tuple, ty_bl_list, ty_bl_dict, ty_str_int, ty_str_bool, ty_str_str, ty_str_tuple, ty_str_list, ty_str_dict, ty_tup_int, ty_tup_bool, ty_tup_str, ty_tup_tuple, ty_tup_list, ty_tup_dict, ty_lst_int, ty_lst_bool, ty_lst_str, ty_lst_tuple, ty_lst_list, ty_lst_dict, ty_dct_int, ty_dct_bool, ty_dct_str, ty_dct_tuple, ty_dct_list, ty_dct_dict, ty_non, sub_tup0, sub_tup1, sub_tup2, sub_tup3, sub_tup4, sub_tup5, sub_lst0, sub_lst1, sub_lst2, sub_lst3, sub_lst4, sub_lst5, startA, List.map_cons, List.map_nil, List.length_cons, List.length_nil, List.replicate, List.cons_append, List.nil_append, true_and, and_true, ne_eq, isNon, Bool.not_true, Bool.not_false, Bool.true_or, Bool.or_true, Bool.false_or, reduceIte, Nat.reduceAdd, Nat.zero_add, Int.cast_ofNat_Int, Int.reduceEq, Int.reduceLT, Int.reduceLE, Nat.reduceLeDiff, decide_true, decide_false, not_true_eq_false, not_false_eq_true, Nat.reduceSub, Int.reduceToNat, W_slice, W_blt, W_mth, W_comp, WOe_none, WOe_some, WI_seq, WI_range1, WI_range2, WI_enum, WI_zip, WI_rev, WT0_none, WT0_some, Ss_asg, Ss_setSub, Ss_aug, WS_asg, WS_aug, WS_for, Ss_setC, bT_name, bT_tup, bT_lst, bTs_nil, bTs_name, seq_lst, seq_tup, seq_scr, seq_str, seq_loc, lst_lst, lst_scr, lst_loc, exInt, exLoc, exLst, exLst1, exLV_lst, exLV_loc, mOk_app, mOk_pop, mOk_ext, mOk_ins, mOk_ind, mOk_join, mOk_indl, m_append, m_pop, m_extend, m_insert, m_join, b_listL, b_listT, b_listS, b_listK, b_tupL, b_tupT, b_tupK, b_max2, b_min2, b_ord, b_str, sl_lst, sl_loc, sl_scr, sl_tupE, sl_strE, cat_lst, cat_loc, cat_tup, wLen_scr, wLen_loc, wLen_str, wSub_scr, wSub_loc, wSub_str, aug_add, aug_sub, tru_lst, tru_tup, tru_non, ty_scr_list, sg_p0, sg_pl, ss_p0, ss_pl, ob_set0, ob_set1, ob_set2, ob_set3, ob_g0, ob_g1, ob_g2, ob_g3, List.append_assoc, List.length_append, List.nil_append, Nat.add_zero, Nat.add_assoc, Int.reduceNeg, wipeA, at_0, at_1, at_2, at_3, at_4, at_5, ix_1_0, ix_2_0, ix_2_1, ix_3_0, ix_3_1, ix_3_2, ix_4_0, ix_4_1, ix_4_2, ix_4_3, va_s0, va_s1, va_s2, va_s3])
local macro_rules | `(tactic| walk_at "if") => `(tactic| (try simp only []); rw [Ss_ite]; simp only [st_set0, st_setS, iteTrue, iteFalse, iteDec, iteNDec, exSome, exBl, W_var, W_int, W_bl, W_non, W_str, W_tup, W_lst, W_bin, W_neg, W_cmp, W_isN, W_notN, W_chain, W_tst, W_ite, W_call, W_len, W_abs, W_isi, W_sub, WT_val, WT_not, WT_and, WT_or, WA_one, WA_cons, WO_one, WO_cons, WB_val, WB_not, WB_and, WB_or, WBA_one, WBA_cons, WBO_one, WBO_cons, WL_nil, WL_cons, WS_set, WS_ret, WS_retN, WS_pass, WS_brk, WS_cont, WS_drop, WS_ite, WS_raise, WSs_nil, Ss_set, Ss_ret, Ss_retN, Ss_pass, Ss_brk, Ss_cont, Ss_drop, Ss_raise, Ss_ite_ret, Ss_ite_retN, Ss_ite_raise, Ss_ite_cont, Ss_ite_brk, Ss_ite_last, gt_0, gt_S, wAdd_int, wSub_int, wMul_int, wDiv_int, wMod_int, wPow_int, wAdd_str, wNeg_int, wAbs_int, wLt_int, wLe_int, wGt_int, wGe_int, wEq_int, wNe_int, wEq_bl, wNe_bl, wEq_str, wNe_str, wLen_tup, wLen_lst, tru_bl, tru_int, ty_int_int, ty_int_bool, ty_int_str, ty_int_tuple, ty_int_list, ty_int_dict, ty_bl_int, ty_bl_bool, ty_bl_str, ty_bl_tuple, ty_bl_list, ty_bl_dict, ty_str_int, ty_str_bool, ty_str_str, ty_str_tuple, ty_str_list, ty_str_dict, ty_tup_int, ty_tup_bool, ty_tup_str, ty_tup_tuple, ty_tup_list, ty_tup_dict, ty_lst_int, ty_lst_bool, ty_lst_str, ty_lst_tuple, ty_lst_list, ty_lst_dict, ty_dct_int, ty_dct_bool, ty_dct_str, ty_dct_tuple, ty_dct_list, ty_dct_dict, ty_non, sub_tup0, sub_tup1, sub_tup2, sub_tup3, sub_tup4, sub_tup5, sub_lst0, sub_lst1, sub_lst2, sub_lst3, sub_lst4, sub_lst5, startA, List.map_cons, List.map_nil, List.length_cons, List.length_nil, List.replicate, List.cons_append, List.nil_append, true_and, and_true, ne_eq, isNon, Bool.not_true, Bool.not_false, Bool.true_or, Bool.or_true, Bool.false_or, reduceIte, Nat.reduceAdd, Nat.zero_add, Int.cast_ofNat_Int, Int.reduceEq, Int.reduceLT, Int.reduceLE, Nat.reduceLeDiff, decide_true, decide_false, not_true_eq_false, not_false_eq_true, Nat.reduceSub, Int.reduceToNat, W_slice, W_blt, W_mth, W_comp, WOe_none, WOe_some, WI_seq, WI_range1, WI_range2, WI_enum, WI_zip, WI_rev, WT0_none, WT0_some, Ss_asg, Ss_setSub, Ss_aug, WS_asg, WS_aug, WS_for, Ss_setC, bT_name, bT_tup, bT_lst, bTs_nil, bTs_name, seq_lst, seq_tup, seq_scr, seq_str, seq_loc, lst_lst, lst_scr, lst_loc, exInt, exLoc, exLst, exLst1, exLV_lst, exLV_loc, mOk_app, mOk_pop, mOk_ext, mOk_ins, mOk_ind, mOk_join, mOk_indl, m_append, m_pop, m_extend, m_insert, m_join, b_listL, b_listT, b_listS, b_listK, b_tupL, b_tupT, b_tupK, b_max2, b_min2, b_ord, b_str, sl_lst, sl_loc, sl_scr, sl_tupE, sl_strE, cat_lst, cat_loc, cat_tup, wLen_scr, wLen_loc, wLen_str, wSub_scr, wSub_loc, wSub_str, aug_add, aug_sub, tru_lst, tru_tup, tru_non, ty_scr_list, sg_p0, sg_pl, ss_p0, ss_pl, ob_set0, ob_set1, ob_set2, ob_set3, ob_g0, ob_g1, ob_g2, ob_g3, List.append_assoc, List.length_append, List.nil_append, Nat.add_zero, Nat.add_assoc, Int.reduceNeg, wipeA, at_0, at_1, at_2, at_3, at_4, at_5, ix_1_0, ix_2_0, ix_2_1, ix_3_0, ix_3_1, ix_3_2, ix_4_0, ix_4_1, ix_4_2, ix_4_3, va_s0, va_s1, va_s2, va_s3])
def cl (ns : List Int) (i : Int) : Int := ns.getD i.toNat 0
theorem cell_ok {T : Tab} {f : Str} {d : Fn} (hT : T f = some d) (hd : d.body = f_l_cell_at.body) (hp : d.ps.length = 2) (hN : d.N.length = 2) (k : Nat) (ns : List Int) (i : Int) (hi : 0 ≤ i) {S : Sto} {P : PV} {E : PX}
    (h : P (.int (cl ns i)) S) : call T (k + 1) f [.scr ns, .int i] S P E := by
  refine call_def hT hp.symm ?_
  rw [hd]
  unfold f_l_cell_at
  simp only [startA_eq, hN]
  walk_at "am"
  obtain ⟨n, rfl⟩ := Int.eq_ofNat_of_zero_le hi
  unfold cl at h
  split
  · rename_i hl
    have hl' : n < ns.length := by omega
    refine ⟨ns[n], L2.atI_nat (by simp [hl']), fin_keep ?_⟩
    have e : ns.getD (n : Int).toNat 0 = ns[n] := by simp [hl']
    rw [e] at h
    exact h
  · rename_i hl
    have e : ns.getD (n : Int).toNat 0 = 0 := by
      rw [List.getD_eq_getElem?_getD, List.getElem?_eq_none (by simp; omega)]; rfl
    rw [e] at h
    exact fin_keep h
/-- below nought for an odd cell -/
def sg (c m : Int) : Int := if c.fmod 2 = 1 then -((c.fdiv 2).fmod m) else (c.fdiv 2).fmod m
theorem cdiv_small {j : Int} (h0 : j ≠ 0) (h : j.natAbs < 2 ^ 200) : CDivA j := ⟨h0, B.log (n := 200) h (by decide)⟩
theorem signed_ok {T : Tab} {f : Str} {d : Fn} (hT : T f = some d) (hd : d.body = f_l_signed.body) (hp : d.ps.length = 2) (hN : d.N.length = 2) (k : Nat) (c m : Int) (hm : m ≠ 0) {S : Sto} {P : PV} {E : PX}
    (h : P (.int (sg c m)) S) : call T (k + 1) f [.int c, .int m] S P E := by
  refine call_def hT hp.symm ?_
  rw [hd]
  unfold f_l_signed
  simp only [startA_eq, hN]
  walk_at "am"
  have h2 : CDivA 2 := cdiv_small (by decide) (by decide)
  unfold sg at h
  split
  · rename_i e
    rw [if_pos e] at h
    exact ⟨h2, hm, fin_keep h⟩
  · rename_i e
    rw [if_neg e] at h
    exact ⟨h2, hm, fin_keep h⟩
theorem sg_lt (c m : Int) (hm : 0 < m) : (sg c m).natAbs < m.natAbs := by
  have h1 := Int.fmod_eq_emod_of_nonneg (c.fdiv 2) (show 0 ≤ m by omega)
  have h2 := Int.emod_nonneg (c.fdiv 2) (show m ≠ 0 by omega)
  have h3 := Int.emod_lt_of_pos (c.fdiv 2) hm
  unfold sg
  split <;> omega
/-- whole: of whole numbers -/
theorem whole_ok {T : Tab} {f : Str} {d : Fn} (hT : T f = some d) (hd : d.body = f_l_whole.body) (hp : d.ps.length = 1) (hN : d.N.length = 1) (k : Nat) (i : Int) {S : Sto} {P : PV} {E : PX}
    (h : P (.bl true) S) : call T (k + 1) f [.int i] S P E := by
  refine call_def hT hp.symm ?_
  rw [hd]
  unfold f_l_whole
  simp only [startA_eq, hN]
  walk_at "am"
  exact fin_keep h
theorem rat_gcd (r : Rat) : Int.gcd r.num (r.den : Int) = 1 := by
  have := r.reduced
  unfold Nat.Coprime at this
  unfold Int.gcd
  simpa using this
theorem isfrac_ok {T : Tab} {f : Str} {d e1 e2 : Fn} (hT : T f = some d) (hd : d.body = f_l_is_fraction.body) (hp : d.ps.length = 1) (hN : d.N.length = 1)
    (w1 : T "_law_whole" = some e1) (w2 : e1.body = f_l_whole.body) (w3 : e1.ps.length = 1) (w4 : e1.N.length = 1) (v1 : T "_law_divisor" = some e2) (v2 : e2.body = f_divisor.body) (v3 : e2.ps.length = 2) (v4 : e2.N.length = 3)
    (k : Nat) (r : Rat) {S : Sto} {P : PV} {E : PX} (h : P (.bl true) S) : call T (k + 2) f [Qv r] S P E := by
  refine call_def hT hp.symm ?_
  rw [hd]
  unfold f_l_is_fraction Qv
  simp only [startA_eq, hN]
  walk_at "am"
  have hpos : (1 : Int) ≤ (r.den : Int) := by
    have := r.den_pos
    omega
  refine whole_ok w1 w2 w3 w4 k _ ?_
  walk_at "am"
  refine whole_ok w1 w2 w3 w4 k _ ?_
  walk_at "am"
  rw [if_pos hpos]
  refine divisor_ok v1 v2 v3 v4 k _ _ ?_
  walk_at "am"
  rw [rat_gcd]
  exact fin_keep h
end FR
end

section
set_option linter.all false
set_option maxRecDepth 100000
set_option maxHeartbeats 1000000
/-! Sums, products, quotients, bounds of fractions. -/
open PySem
namespace AM
def f_plus : Fn := ⟨["one", "other"], ["one", "other"],
  (.cons (.ret (.call "fraction" (.cons (.bin .add (.bin .mul (.sub (.var 0) (.int 0)) (.sub (.var 1) (.int 1))) (.bin .mul (.sub (.var 1) (.int 0)) (.sub (.var 0) (.int 1)))) (.cons (.bin .mul (.sub (.var 0) (.int 1)) (.sub (.var 1) (.int 1))) .nil))))
  .nil)⟩
def f_minus : Fn := ⟨["one", "other"], ["one", "other"],
  (.cons (.ret (.call "fraction" (.cons (.bin .sub (.bin .mul (.sub (.var 0) (.int 0)) (.sub (.var 1) (.int 1))) (.bin .mul (.sub (.var 1) (.int 0)) (.sub (.var 0) (.int 1)))) (.cons (.bin .mul (.sub (.var 0) (.int 1)) (.sub (.var 1) (.int 1))) .nil))))
  .nil)⟩
def f_times : Fn := ⟨["one", "other"], ["one", "other"],
  (.cons (.ret (.call "fraction" (.cons (.bin .mul (.sub (.var 0) (.int 0)) (.sub (.var 1) (.int 0))) (.cons (.bin .mul (.sub (.var 0) (.int 1)) (.sub (.var 1) (.int 1))) .nil))))
  .nil)⟩
def f_over : Fn := ⟨["one", "other"], ["one", "other"],
  (.cons (.ite (.val (.cmp .eq (.sub (.var 1) (.int 0)) (.int 0))) (.cons (.raise "NoFraction")
  .nil) .nil)
  (.cons (.ret (.call "fraction" (.cons (.bin .mul (.sub (.var 0) (.int 0)) (.sub (.var 1) (.int 1))) (.cons (.bin .mul (.sub (.var 0) (.int 1)) (.sub (.var 1) (.int 0))) .nil))))
  .nil))⟩
def f_less : Fn := ⟨["one", "other"], ["one", "other"],
  (.cons (.ret (.cmp .lt (.bin .mul (.sub (.var 0) (.int 0)) (.sub (.var 1) (.int 1))) (.bin .mul (.sub (.var 1) (.int 0)) (.sub (.var 0) (.int 1)))))
  .nil)⟩
def f_held : Fn := ⟨["one", "low", "high"], ["one", "low", "high"],
  (.cons (.ite (.and (.cons (.val (.notN (.var 2))) (.one (.val (.call "less" (.cons (.var 2) (.cons (.var 1) .nil))))))) (.cons (.set 2 (.var 1))
  .nil) .nil)
  (.cons (.ite (.val (.call "less" (.cons (.var 0) (.cons (.var 1) .nil)))) (.cons (.ret (.var 1))
  .nil) .nil)
  (.cons (.ite (.and (.cons (.val (.notN (.var 2))) (.one (.val (.call "less" (.cons (.var 2) (.cons (.var 0) .nil))))))) (.cons (.ret (.var 2))
  .nil) .nil)
  (.cons (.ret (.var 0))
  .nil))))⟩
end AM
namespace FR
open PySem AM
local macro_rules | `(tactic| walk_at "am") => `(tactic| try simp only [st_set0, st_setS, iteTrue, iteFalse, iteDec, iteNDec, exSome, exBl, W_var, W_int, W_bl, W_non, W_str, W_tup, W_lst, W_bin, W_neg, W_cmp, W_isN, W_notN, W_chain, W_tst, W_ite, W_call, W_len, W_abs, W_isi, W_sub, WT_val, WT_not, WT_and, WT_or, WA_one, WA_cons, WO_one, WO_cons, WB_val, WB_not, WB_and, WB_or, WBA_one, WBA_cons, WBO_one, WBO_cons, WL_nil, WL_cons, WS_set, WS_ret, WS_retN, WS_pass, WS_brk, WS_cont, WS_drop, WS_ite, WS_raise, WSs_nil, Ss_set, Ss_ret, Ss_retN, Ss_pass, Ss_brk, Ss_cont, Ss_drop, Ss_raise, Ss_ite_ret, Ss_ite_retN, Ss_ite_raise, Ss_ite_cont, Ss_ite_brk, Ss_ite_last, gt_0, gt_S, wAdd_int, wSub_int, wMul_int, wDiv_int, wMod_int, wPow_int, wAdd_str, wNeg_int, wAbs_int, wLt_int, wLe_int, wGt_int, wGe_int, wEq_int, wNe_int, wEq_bl, wNe_bl, wEq_str, wNe_str, wLen_tup, wLen_lst, tru_bl, tru_int, ty_int_int, ty_int_bool, ty_int_str, ty_int_tuple, ty_int_list, ty_int_dict, ty_bl_int, ty_bl_bool, ty_bl_str, ty_bl_tuple, ty_bl_list, ty_bl_dict, ty_str_int, ty_str_bool, ty_str_str, ty_str_tuple, ty_str_list, ty_str_dict, ty_tup_int, ty_tup_bool, ty_tup_str, ty_tup_tuple, ty_tup_list, ty_tup_dict, ty_lst_int, ty_lst_bool, ty_lst_str, ty_lst_tuple, ty_lst_list, ty_lst_dict, ty_dct_int, ty_dct_bool, ty_dct_str, ty_dct_tuple, ty_dct_list, ty_dct_dict, ty_non, sub_tup0, sub_tup1, sub_tup2, sub_tup3, sub_tup4, sub_tup5, sub_lst0, sub_lst1, sub_lst2, sub_lst3, sub_lst4, sub_lst5, startA, List.map_cons, List.map_nil, List.length_cons, List.length_nil, List.replicate, List.cons_append, List.nil_append, true_and, and_true, ne_eq, isNon, Bool.not_true, Bool.not_false, Bool.true_or, Bool.or_true, Bool.false_or, reduceIte, Nat.reduceAdd, Nat.zero_add, Int.cast_ofNat_Int, Int.reduceEq, Int.reduceLT, Int.reduceLE, Nat.reduceLeDiff, decide_true, decide_false, not_true_eq_false, not_false_eq_true, Nat.reduceSub, Int.reduceToNat, W_slice, W_blt, W_mth, W_comp, WOe_none, WOe_some, WI_seq, WI_range1, WI_range2, WI_enum, WI_zip, WI_rev, WT0_none, WT0_some, Ss_asg, Ss_setSub, Ss_aug, WS_asg, WS_aug, WS_for, Ss_setC, bT_name, bT_tup, bT_lst, bTs_nil, bTs_name, seq_lst, seq_tup, seq_scr, seq_str, seq_loc, lst_lst, lst_scr, lst_loc, exInt, exLoc, exLst, exLst1, exLV_lst, exLV_loc, mOk_app, mOk_pop, mOk_ext, mOk_ins, mOk_ind, mOk_join, mOk_indl, m_append, m_pop, m_extend, m_insert, m_join, b_listL, b_listT, b_listS, b_listK, b_tupL, b_tupT, b_tupK, b_max2, b_min2, b_ord, b_str, sl_lst, sl_loc, sl_scr, sl_tupE, sl_strE, cat_lst, cat_loc, cat_tup, wLen_scr, wLen_loc, wLen_str, wSub_scr, wSub_loc, wSub_str, aug_add, aug_sub, tru_lst, tru_tup, tru_non, ty_scr_list, sg_p0, sg_pl, ss_p0, ss_pl, ob_set0, ob_set1, ob_set2, ob_set3, ob_g0, ob_g1, ob_g2, ob_g3, List.append_assoc, List.length_append, List.nil_append, Nat.add_zero, Nat.add_assoc, Int.reduceNeg, wipeA, at_0, at_1, at_2, at_3, at_4, at_5, ix_1_0, ix_2_0, ix_2_1, ix_3_0, ix_3_1, ix_3_2, ix_4_0, ix_4_1, ix_4_2, ix_4_3, va_s0, va_s1, va_s2, va_s3])
local macro_rules | `(tactic| walk_at "if") => `(tactic| (try simp only []); rw [Ss_ite]; simp only [st_set0, st_setS, iteTrue, iteFalse, iteDec, iteNDec, exSome, exBl, W_var, W_int, W_bl, W_non, W_str, W_tup, W_lst, W_bin, W_neg, W_cmp, W_isN, W_notN, W_chain, W_tst, W_ite, W_call, W_len, W_abs, W_isi, W_sub, WT_val, WT_not, WT_and, WT_or, WA_one, WA_cons, WO_one, WO_cons, WB_val, WB_not, WB_and, WB_or, WBA_one, WBA_cons, WBO_one, WBO_cons, WL_nil, WL_cons, WS_set, WS_ret, WS_retN, WS_pass, WS_brk, WS_cont, WS_drop, WS_ite, WS_raise, WSs_nil, Ss_set, Ss_ret, Ss_retN, Ss_pass, Ss_brk, Ss_cont, Ss_drop, Ss_raise, Ss_ite_ret, Ss_ite_retN, Ss_ite_raise, Ss_ite_cont, Ss_ite_brk, Ss_ite_last, gt_0, gt_S, wAdd_int, wSub_int, wMul_int, wDiv_int, wMod_int, wPow_int, wAdd_str, wNeg_int, wAbs_int, wLt_int, wLe_int, wGt_int, wGe_int, wEq_int, wNe_int, wEq_bl, wNe_bl, wEq_str, wNe_str, wLen_tup, wLen_lst, tru_bl, tru_int, ty_int_int, ty_int_bool, ty_int_str, ty_int_tuple, ty_int_list, ty_int_dict, ty_bl_int, ty_bl_bool, ty_bl_str, ty_bl_tuple, ty_bl_list, ty_bl_dict, ty_str_int, ty_str_bool, ty_str_str, ty_str_tuple, ty_str_list, ty_str_dict, ty_tup_int, ty_tup_bool, ty_tup_str, ty_tup_tuple, ty_tup_list, ty_tup_dict, ty_lst_int, ty_lst_bool, ty_lst_str, ty_lst_tuple, ty_lst_list, ty_lst_dict, ty_dct_int, ty_dct_bool, ty_dct_str, ty_dct_tuple, ty_dct_list, ty_dct_dict, ty_non, sub_tup0, sub_tup1, sub_tup2, sub_tup3, sub_tup4, sub_tup5, sub_lst0, sub_lst1, sub_lst2, sub_lst3, sub_lst4, sub_lst5, startA, List.map_cons, List.map_nil, List.length_cons, List.length_nil, List.replicate, List.cons_append, List.nil_append, true_and, and_true, ne_eq, isNon, Bool.not_true, Bool.not_false, Bool.true_or, Bool.or_true, Bool.false_or, reduceIte, Nat.reduceAdd, Nat.zero_add, Int.cast_ofNat_Int, Int.reduceEq, Int.reduceLT, Int.reduceLE, Nat.reduceLeDiff, decide_true, decide_false, not_true_eq_false, not_false_eq_true, Nat.reduceSub, Int.reduceToNat, W_slice, W_blt, W_mth, W_comp, WOe_none, WOe_some, WI_seq, WI_range1, WI_range2, WI_enum, WI_zip, WI_rev, WT0_none, WT0_some, Ss_asg, Ss_setSub, Ss_aug, WS_asg, WS_aug, WS_for, Ss_setC, bT_name, bT_tup, bT_lst, bTs_nil, bTs_name, seq_lst, seq_tup, seq_scr, seq_str, seq_loc, lst_lst, lst_scr, lst_loc, exInt, exLoc, exLst, exLst1, exLV_lst, exLV_loc, mOk_app, mOk_pop, mOk_ext, mOk_ins, mOk_ind, mOk_join, mOk_indl, m_append, m_pop, m_extend, m_insert, m_join, b_listL, b_listT, b_listS, b_listK, b_tupL, b_tupT, b_tupK, b_max2, b_min2, b_ord, b_str, sl_lst, sl_loc, sl_scr, sl_tupE, sl_strE, cat_lst, cat_loc, cat_tup, wLen_scr, wLen_loc, wLen_str, wSub_scr, wSub_loc, wSub_str, aug_add, aug_sub, tru_lst, tru_tup, tru_non, ty_scr_list, sg_p0, sg_pl, ss_p0, ss_pl, ob_set0, ob_set1, ob_set2, ob_set3, ob_g0, ob_g1, ob_g2, ob_g3, List.append_assoc, List.length_append, List.nil_append, Nat.add_zero, Nat.add_assoc, Int.reduceNeg, wipeA, at_0, at_1, at_2, at_3, at_4, at_5, ix_1_0, ix_2_0, ix_2_1, ix_3_0, ix_3_1, ix_3_2, ix_4_0, ix_4_1, ix_4_2, ix_4_3, va_s0, va_s1, va_s2, va_s3])
/-- a fraction's size -/
def BQ (n : Nat) (r : Rat) : Prop := B n r.num ∧ B n (r.den : Int)
theorem BQ.mono {m n : Nat} {r : Rat} (h : BQ m r) (l : m ≤ n) : BQ n r := ⟨h.1.mono l, h.2.mono l⟩
theorem BQ.neg {n : Nat} {r : Rat} (h : BQ n r) : BQ n (-r) := ⟨by rw [Rat.neg_num]; exact h.1.neg, by rw [Rat.neg_den]; exact h.2⟩
theorem BQ.of {n : Nat} {a b : Int} (ha : B n a) (hb : B n b) (h0 : b ≠ 0) : BQ n (Rat.divInt a b) := divInt_B ha hb h0
theorem add_dv (r q : Rat) : Rat.divInt (r.num * q.den + q.num * r.den) (r.den * q.den) = r + q := by
  have h := Rat.divInt_add_divInt r.num q.num (den_ne r) (den_ne q)
  rw [Rat.num_divInt_den, Rat.num_divInt_den] at h
  rw [h]
theorem sub_dv (r q : Rat) : Rat.divInt (r.num * q.den - q.num * r.den) (r.den * q.den) = r - q := by
  have h := Rat.divInt_sub_divInt r.num q.num (den_ne r) (den_ne q)
  rw [Rat.num_divInt_den, Rat.num_divInt_den] at h
  rw [h]
theorem mul_dv (r q : Rat) : Rat.divInt (r.num * q.num) (r.den * q.den) = r * q := by
  have h := Rat.divInt_mul_divInt r.num q.num (d₁ := r.den) (d₂ := q.den)
  rw [Rat.num_divInt_den, Rat.num_divInt_den] at h
  rw [h]
theorem div_dv (r q : Rat) : Rat.divInt (r.num * q.den) (r.den * q.num) = r / q := by
  have h := Rat.divInt_mul_divInt r.num q.den (d₁ := r.den) (d₂ := q.num)
  have e : Rat.divInt q.den q.num = q⁻¹ := by
    rw [← Rat.inv_divInt, Rat.num_divInt_den]
  rw [Rat.num_divInt_den, e] at h
  rw [Rat.div_def, h]
theorem BQ.add {n : Nat} {r q : Rat} (h : BQ n r) (h' : BQ n q) : BQ (n + n + 1) (r + q) := by
  rw [← add_dv]
  exact BQ.of (B.add (h.1.mul h'.2) (h'.1.mul h.2)) ((h.2.mul h'.2).mono (by omega)) (Int.mul_ne_zero (den_ne r) (den_ne q))
theorem BQ.sub {n : Nat} {r q : Rat} (h : BQ n r) (h' : BQ n q) : BQ (n + n + 1) (r - q) := by
  rw [← sub_dv]
  exact BQ.of (B.sub (h.1.mul h'.2) (h'.1.mul h.2)) ((h.2.mul h'.2).mono (by omega)) (Int.mul_ne_zero (den_ne r) (den_ne q))
theorem BQ.mul {n : Nat} {r q : Rat} (h : BQ n r) (h' : BQ n q) : BQ (n + n) (r * q) := by
  rw [← mul_dv]
  exact BQ.of (h.1.mul h'.1) (h.2.mul h'.2) (Int.mul_ne_zero (den_ne r) (den_ne q))
theorem num_ne {q : Rat} (h : q ≠ 0) : q.num ≠ 0 := fun z => h (Rat.num_eq_zero.mp z)
theorem BQ.div {n : Nat} {r q : Rat} (h : BQ n r) (h' : BQ n q) (h0 : q ≠ 0) : BQ (n + n) (r / q) := by
  rw [← div_dv]
  exact BQ.of (h.1.mul h'.2) (h.2.mul h'.1) (Int.mul_ne_zero (den_ne r) (num_ne h0))
section
variable {T : Tab} (t1 : T "divisor" = some f_divisor) (t2 : T "fraction" = some f_fraction)
include t1 t2
theorem plus_ok (t3 : T "plus" = some f_plus) (k : Nat) (r q : Rat) {n : Nat} (hr : BQ n r) (hq : BQ n q) (hn : n ≤ 4000) {S : Sto} {P : PV} {E : PX} (h : P (Qv (r + q)) S) : call T (k + 3) "plus" [Qv r, Qv q] S P E := by
  refine call_def t3 rfl ?_
  unfold f_plus Qv
  walk_at "am"
  refine ⟨hr.1.cmul hq.2 (by omega), hq.1.cmul hr.2 (by omega), hr.2.cmul hq.2 (by omega), ?_⟩
  refine fraction_ok t1 t2 k _ _ (Int.mul_ne_zero (den_ne r) (den_ne q)) (hr.2.mul hq.2) (by omega) ?_
  rw [add_dv]
  exact fin_keep h
theorem minus_ok (t3 : T "minus" = some f_minus) (k : Nat) (r q : Rat) {n : Nat} (hr : BQ n r) (hq : BQ n q) (hn : n ≤ 4000) {S : Sto} {P : PV} {E : PX} (h : P (Qv (r - q)) S) : call T (k + 3) "minus" [Qv r, Qv q] S P E := by
  refine call_def t3 rfl ?_
  unfold f_minus Qv
  walk_at "am"
  refine ⟨hr.1.cmul hq.2 (by omega), hq.1.cmul hr.2 (by omega), hr.2.cmul hq.2 (by omega), ?_⟩
  refine fraction_ok t1 t2 k _ _ (Int.mul_ne_zero (den_ne r) (den_ne q)) (hr.2.mul hq.2) (by omega) ?_
  rw [sub_dv]
  exact fin_keep h
theorem times_ok (t3 : T "times" = some f_times) (k : Nat) (r q : Rat) {n : Nat} (hr : BQ n r) (hq : BQ n q) (hn : n ≤ 4000) {S : Sto} {P : PV} {E : PX} (h : P (Qv (r * q)) S) : call T (k + 3) "times" [Qv r, Qv q] S P E := by
  refine call_def t3 rfl ?_
  unfold f_times Qv
  walk_at "am"
  refine ⟨hr.1.cmul hq.1 (by omega), hr.2.cmul hq.2 (by omega), ?_⟩
  refine fraction_ok t1 t2 k _ _ (Int.mul_ne_zero (den_ne r) (den_ne q)) (hr.2.mul hq.2) (by omega) ?_
  rw [mul_dv]
  exact fin_keep h
theorem over_ok (t3 : T "over" = some f_over) (k : Nat) (r q : Rat) (h0 : q ≠ 0) {n : Nat} (hr : BQ n r) (hq : BQ n q) (hn : n ≤ 4000) {S : Sto} {P : PV} {E : PX} (h : P (Qv (r / q)) S) : call T (k + 3) "over" [Qv r, Qv q] S P E := by
  refine call_def t3 rfl ?_
  unfold f_over Qv
  walk_at "am"
  rw [if_neg (num_ne h0)]
  refine ⟨hr.1.cmul hq.2 (by omega), hr.2.cmul hq.1 (by omega), ?_⟩
  refine fraction_ok t1 t2 k _ _ (Int.mul_ne_zero (den_ne r) (num_ne h0)) (hr.2.mul hq.1) (by omega) ?_
  rw [div_dv]
  exact fin_keep h
end
theorem lt_cross (r q : Rat) : (r.num * q.den < q.num * r.den) ↔ r < q := by
  rw [Rat.lt_iff]
theorem less_ok {T : Tab} (t3 : T "less" = some f_less) (k : Nat) (r q : Rat) {n : Nat} (hr : BQ n r) (hq : BQ n q) (hn : n ≤ 4000) {S : Sto} {P : PV} {E : PX} (h : P (.bl (decide (r < q))) S) : call T (k + 1) "less" [Qv r, Qv q] S P E := by
  refine call_def t3 rfl ?_
  unfold f_less Qv
  walk_at "am"
  refine ⟨hr.1.cmul hq.2 (by omega), hq.1.cmul hr.2 (by omega), fin_keep ?_⟩
  have e : decide (r.num * q.den < q.num * r.den) = decide (r < q) := decide_eq_decide.mpr (lt_cross r q)
  rw [e]; exact h
/-- a bound that may be none -/
def OQ : Option Rat → Va
  | none => .non | some q => Qv q
def heldR (r lo : Rat) : Option Rat → Rat
  | none => if r < lo then lo else r
  | some hi => if r < lo then lo else if (if hi < lo then lo else hi) < r then (if hi < lo then lo else hi) else r
theorem held_ok {T : Tab} (t3 : T "less" = some f_less) (t4 : T "held" = some f_held) (k : Nat) (r lo : Rat) (hi : Option Rat) {n : Nat} (hr : BQ n r) (hl : BQ n lo) (hh : ∀ q, hi = some q → BQ n q) (hn : n ≤ 4000) {S : Sto} {P : PV} {E : PX} (h : P (Qv (heldR r lo hi)) S) : call T (k + 2) "held" [Qv r, Qv lo, OQ hi] S P E := by
  refine call_def t4 rfl ?_
  unfold f_held
  cases hi with
  | none =>
    unfold OQ
    simp only [heldR] at h
    refine seq_to (call_mono _ _) [some (Qv r), some (Qv lo), some .non] S (by walk_at "am") ?_
    walk_at "am"
    refine less_ok t3 k r lo hr hl hn ?_
    walk_at "am"
    split
    · rename_i z; rw [if_pos z] at h; exact fin_keep h
    · rename_i z; rw [if_neg z] at h; exact fin_keep h
  | some q =>
    unfold OQ
    simp only [heldR] at h
    have hq := hh q rfl
    refine seq_to (call_mono _ _) [some (Qv r), some (Qv lo), some (Qv (if q < lo then lo else q))] S ?_ ?_
    · simp only [Qv]
      walk_at "am"
      refine less_ok t3 k q lo hq hl hn ?_
      walk_at "am"
      split <;> rfl
    have hq' : BQ n (if q < lo then lo else q) := by split <;> assumption
    generalize (if q < lo then lo else q) = q' at *
    walk_at "am"
    refine less_ok t3 k r lo hr hl hn ?_
    walk_at "am"
    split
    · rename_i z; rw [if_pos z] at h; exact fin_keep h
    · rename_i z; rw [if_neg z] at h
      simp only [Qv]
      walk_at "am"
      refine less_ok t3 k q' r hq' hr hn ?_
      walk_at "am"
      split
      · rename_i z; rw [if_pos z] at h; exact fin_keep h
      · rename_i z; rw [if_neg z] at h; exact fin_keep h
end FR
end

section
set_option linter.all false
set_option maxRecDepth 100000
set_option maxHeartbeats 1000000
/-! The laws' own: a fraction that comes to as much. -/
open PySem
namespace AM
def f_l_lowest : Fn := ⟨["_law_top", "_law_bottom"], ["_law_top", "_law_bottom", "_law_both"],
  (.cons (.set 2 (.call "_law_divisor" (.cons (.var 0) (.cons (.var 1) .nil))))
  (.cons (.ret (.tup (.cons (.bin .fdiv (.var 0) (.var 2)) (.cons (.bin .fdiv (.var 1) (.var 2)) .nil))))
  .nil))⟩
def f_l_comes_to : Fn := ⟨["_law_found", "_law_top", "_law_bottom"], ["_law_found", "_law_top", "_law_bottom"],
  (.cons (.ite (.or (.cons (.not (.val (.isi (.var 0) .tuple))) (.one (.val (.cmp .ne (.len (.var 0)) (.int 2)))))) (.cons (.ret (.bl false))
  .nil) .nil)
  (.cons (.ite (.or (.cons (.not (.val (.call "_law_whole" (.cons (.sub (.var 0) (.int 0)) .nil)))) (.one (.not (.val (.call "_law_whole" (.cons (.sub (.var 0) (.int 1)) .nil))))))) (.cons (.ret (.bl false))
  .nil) .nil)
  (.cons (.ite (.or (.cons (.val (.cmp .lt (.sub (.var 0) (.int 1)) (.int 1))) (.one (.val (.cmp .ne (.call "_law_divisor" (.cons (.sub (.var 0) (.int 0)) (.cons (.sub (.var 0) (.int 1)) .nil))) (.int 1)))))) (.cons (.ret (.bl false))
  .nil) .nil)
  (.cons (.ret (.cmp .eq (.bin .mul (.sub (.var 0) (.int 0)) (.var 2)) (.bin .mul (.var 1) (.sub (.var 0) (.int 1)))))
  .nil))))⟩
end AM
namespace FR
open PySem AM
local macro_rules | `(tactic| walk_at "am") => `(tactic| try simp only [st_set0, st_setS, iteTrue, iteFalse, iteDec, iteNDec, exSome, exBl, W_var, W_int, W_bl, W_non, W_str, W_tup, W_lst, W_bin, W_neg, W_cmp, W_isN, W_notN, W_chain, W_tst, W_ite, W_call, W_len, W_abs, W_isi, W_sub, WT_val, WT_not, WT_and, WT_or, WA_one, WA_cons, WO_one, WO_cons, WB_val, WB_not, WB_and, WB_or, WBA_one, WBA_cons, WBO_one, WBO_cons, WL_nil, WL_cons, WS_set, WS_ret, WS_retN, WS_pass, WS_brk, WS_cont, WS_drop, WS_ite, WS_raise, WSs_nil, Ss_set, Ss_ret, Ss_retN, Ss_pass, Ss_brk, Ss_cont, Ss_drop, Ss_raise, Ss_ite_ret, Ss_ite_retN, Ss_ite_raise, Ss_ite_cont, Ss_ite_brk, Ss_ite_last, gt_0, gt_S, wAdd_int, wSub_int, wMul_int, wDiv_int, wMod_int, wPow_int, wAdd_str, wNeg_int, wAbs_int, wLt_int, wLe_int, wGt_int, wGe_int, wEq_int, wNe_int, wEq_bl, wNe_bl, wEq_str, wNe_str, wLen_tup, wLen_lst, tru_bl, tru_int, ty_int_int, ty_int_bool, ty_int_str, ty_int_tuple, ty_int_list, ty_int_dict, ty_bl_int, ty_bl_bool, ty_bl_str, ty_bl_tuple, ty_bl_list, ty_bl_dict, ty_str_int, ty_str_bool, ty_str_str, ty_str_tuple, ty_str_list, ty_str_dict, ty_tup_int, ty_tup_bool, ty_tup_str, ty_tup_tuple, ty_tup_list, ty_tup_dict, ty_lst_int, ty_lst_bool, ty_lst_str, ty_lst_tuple, ty_lst_list, ty_lst_dict, ty_dct_int, ty_dct_bool, ty_dct_str, ty_dct_tuple, ty_dct_list, ty_dct_dict, ty_non, sub_tup0, sub_tup1, sub_tup2, sub_tup3, sub_tup4, sub_tup5, sub_lst0, sub_lst1, sub_lst2, sub_lst3, sub_lst4, sub_lst5, startA, List.map_cons, List.map_nil, List.length_cons, List.length_nil, List.replicate, List.cons_append, List.nil_append, true_and, and_true, ne_eq, isNon, Bool.not_true, Bool.not_false, Bool.true_or, Bool.or_true, Bool.false_or, reduceIte, Nat.reduceAdd, Nat.zero_add, Int.cast_ofNat_Int, Int.reduceEq, Int.reduceLT, Int.reduceLE, Nat.reduceLeDiff, decide_true, decide_false, not_true_eq_false, not_false_eq_true, Nat.reduceSub, Int.reduceToNat, W_slice, W_blt, W_mth, W_comp, WOe_none, WOe_some, WI_seq, WI_range1, WI_range2, WI_enum, WI_zip, WI_rev, WT0_none, WT0_some, Ss_asg, Ss_setSub, Ss_aug, WS_asg, WS_aug, WS_for, Ss_setC, bT_name, bT_tup, bT_lst, bTs_nil, bTs_name, seq_lst, seq_tup, seq_scr, seq_str, seq_loc, lst_lst, lst_scr, lst_loc, exInt, exLoc, exLst, exLst1, exLV_lst, exLV_loc, mOk_app, mOk_pop, mOk_ext, mOk_ins, mOk_ind, mOk_join, mOk_indl, m_append, m_pop, m_extend, m_insert, m_join, b_listL, b_listT, b_listS, b_listK, b_tupL, b_tupT, b_tupK, b_max2, b_min2, b_ord, b_str, sl_lst, sl_loc, sl_scr, sl_tupE, sl_strE, cat_lst, cat_loc, cat_tup, wLen_scr, wLen_loc, wLen_str, wSub_scr, wSub_loc, wSub_str, aug_add, aug_sub, tru_lst, tru_tup, tru_non, ty_scr_list, sg_p0, sg_pl, ss_p0, ss_pl, ob_set0, ob_set1, ob_set2, ob_set3, ob_g0, ob_g1, ob_g2, ob_g3, List.append_assoc, List.length_append, List.nil_append, Nat.add_zero, Nat.add_assoc, Int.reduceNeg, wipeA, at_0, at_1, at_2, at_3, at_4, at_5, ix_1_0, ix_2_0, ix_2_1, ix_3_0, ix_3_1, ix_3_2, ix_4_0, ix_4_1, ix_4_2, ix_4_3, va_s0, va_s1, va_s2, va_s3])
local macro_rules | `(tactic| walk_at "if") => `(tactic| (try simp only []); rw [Ss_ite]; simp only [st_set0, st_setS, iteTrue, iteFalse, iteDec, iteNDec, exSome, exBl, W_var, W_int, W_bl, W_non, W_str, W_tup, W_lst, W_bin, W_neg, W_cmp, W_isN, W_notN, W_chain, W_tst, W_ite, W_call, W_len, W_abs, W_isi, W_sub, WT_val, WT_not, WT_and, WT_or, WA_one, WA_cons, WO_one, WO_cons, WB_val, WB_not, WB_and, WB_or, WBA_one, WBA_cons, WBO_one, WBO_cons, WL_nil, WL_cons, WS_set, WS_ret, WS_retN, WS_pass, WS_brk, WS_cont, WS_drop, WS_ite, WS_raise, WSs_nil, Ss_set, Ss_ret, Ss_retN, Ss_pass, Ss_brk, Ss_cont, Ss_drop, Ss_raise, Ss_ite_ret, Ss_ite_retN, Ss_ite_raise, Ss_ite_cont, Ss_ite_brk, Ss_ite_last, gt_0, gt_S, wAdd_int, wSub_int, wMul_int, wDiv_int, wMod_int, wPow_int, wAdd_str, wNeg_int, wAbs_int, wLt_int, wLe_int, wGt_int, wGe_int, wEq_int, wNe_int, wEq_bl, wNe_bl, wEq_str, wNe_str, wLen_tup, wLen_lst, tru_bl, tru_int, ty_int_int, ty_int_bool, ty_int_str, ty_int_tuple, ty_int_list, ty_int_dict, ty_bl_int, ty_bl_bool, ty_bl_str, ty_bl_tuple, ty_bl_list, ty_bl_dict, ty_str_int, ty_str_bool, ty_str_str, ty_str_tuple, ty_str_list, ty_str_dict, ty_tup_int, ty_tup_bool, ty_tup_str, ty_tup_tuple, ty_tup_list, ty_tup_dict, ty_lst_int, ty_lst_bool, ty_lst_str, ty_lst_tuple, ty_lst_list, ty_lst_dict, ty_dct_int, ty_dct_bool, ty_dct_str, ty_dct_tuple, ty_dct_list, ty_dct_dict, ty_non, sub_tup0, sub_tup1, sub_tup2, sub_tup3, sub_tup4, sub_tup5, sub_lst0, sub_lst1, sub_lst2, sub_lst3, sub_lst4, sub_lst5, startA, List.map_cons, List.map_nil, List.length_cons, List.length_nil, List.replicate, List.cons_append, List.nil_append, true_and, and_true, ne_eq, isNon, Bool.not_true, Bool.not_false, Bool.true_or, Bool.or_true, Bool.false_or, reduceIte, Nat.reduceAdd, Nat.zero_add, Int.cast_ofNat_Int, Int.reduceEq, Int.reduceLT, Int.reduceLE, Nat.reduceLeDiff, decide_true, decide_false, not_true_eq_false, not_false_eq_true, Nat.reduceSub, Int.reduceToNat, W_slice, W_blt, W_mth, W_comp, WOe_none, WOe_some, WI_seq, WI_range1, WI_range2, WI_enum, WI_zip, WI_rev, WT0_none, WT0_some, Ss_asg, Ss_setSub, Ss_aug, WS_asg, WS_aug, WS_for, Ss_setC, bT_name, bT_tup, bT_lst, bTs_nil, bTs_name, seq_lst, seq_tup, seq_scr, seq_str, seq_loc, lst_lst, lst_scr, lst_loc, exInt, exLoc, exLst, exLst1, exLV_lst, exLV_loc, mOk_app, mOk_pop, mOk_ext, mOk_ins, mOk_ind, mOk_join, mOk_indl, m_append, m_pop, m_extend, m_insert, m_join, b_listL, b_listT, b_listS, b_listK, b_tupL, b_tupT, b_tupK, b_max2, b_min2, b_ord, b_str, sl_lst, sl_loc, sl_scr, sl_tupE, sl_strE, cat_lst, cat_loc, cat_tup, wLen_scr, wLen_loc, wLen_str, wSub_scr, wSub_loc, wSub_str, aug_add, aug_sub, tru_lst, tru_tup, tru_non, ty_scr_list, sg_p0, sg_pl, ss_p0, ss_pl, ob_set0, ob_set1, ob_set2, ob_set3, ob_g0, ob_g1, ob_g2, ob_g3, List.append_assoc, List.length_append, List.nil_append, Nat.add_zero, Nat.add_assoc, Int.reduceNeg, wipeA, at_0, at_1, at_2, at_3, at_4, at_5, ix_1_0, ix_2_0, ix_2_1, ix_3_0, ix_3_1, ix_3_2, ix_4_0, ix_4_1, ix_4_2, ix_4_3, va_s0, va_s1, va_s2, va_s3])
theorem cl_lt (c m : Int) (hm : 0 < m) : 0 ≤ c.fmod m ∧ c.fmod m < m := by
  rw [Int.fmod_eq_emod_of_nonneg c (by omega)]
  exact ⟨Int.emod_nonneg c (by omega), Int.emod_lt_of_pos c hm⟩
theorem lowest_ok {T : Tab} {f : Str} {d e2 : Fn} (hT : T f = some d) (hd : d.body = f_l_lowest.body) (hp : d.ps.length = 2) (hN : d.N.length = 3)
    (v1 : T "_law_divisor" = some e2) (v2 : e2.body = f_divisor.body) (v3 : e2.ps.length = 2) (v4 : e2.N.length = 3) (k : Nat) (a b : Int) (hb : 0 < b) {n : Nat} (hs : B n b) (hn : n ≤ 9000) {S : Sto} {P : PV} {E : PX}
    (h : P (Qv (Rat.divInt a b)) S) : call T (k + 2) f [.int a, .int b] S P E := by
  refine call_def hT hp.symm ?_
  rw [hd]
  unfold f_l_lowest
  simp only [startA_eq, hN]
  walk_at "am"
  refine divisor_ok v1 v2 v3 v4 k a b ?_
  have h0 : b ≠ 0 := by omega
  have hg : Int.gcd a b ≠ 0 := by
    intro z
    rw [Int.gcd_eq_zero_iff] at z
    exact h0 z.2
  have e1 := divInt_num a b h0
  have e2 := divInt_den a b h0
  rw [if_neg (by omega)] at e1 e2
  have key : CDivA (Int.gcd a b : Int) := ⟨by omega, B.log (n := n) (hs.of_le (by have := gcd_le (a := a) h0; simpa using this)) hn⟩
  walk_at "am"
  refine ⟨key, key, fin_keep ?_⟩
  rw [e1, e2]
  exact h
theorem comes_ok {T : Tab} {f : Str} {d e1 e2 : Fn} (hT : T f = some d) (hd : d.body = f_l_comes_to.body) (hp : d.ps.length = 3) (hN : d.N.length = 3)
    (w1 : T "_law_whole" = some e1) (w2 : e1.body = f_l_whole.body) (w3 : e1.ps.length = 1) (w4 : e1.N.length = 1) (v1 : T "_law_divisor" = some e2) (v2 : e2.body = f_divisor.body) (v3 : e2.ps.length = 2) (v4 : e2.N.length = 3)
    (k : Nat) (r : Rat) (t b : Int) {n : Nat} (hr : BQ n r) (ht : B n t) (hb : B n b) (hn : n ≤ 60000000) {S : Sto} {P : PV} {E : PX} (h : P (.bl (decide (r.num * b = t * r.den))) S) : call T (k + 2) f [Qv r, .int t, .int b] S P E := by
  refine call_def hT hp.symm ?_
  rw [hd]
  unfold f_l_comes_to Qv
  simp only [startA_eq, hN]
  walk_at "am"
  have hpos : ¬ ((r.den : Int) < 1) := by
    have := r.den_pos
    omega
  refine whole_ok w1 w2 w3 w4 k _ ?_
  walk_at "am"
  refine whole_ok w1 w2 w3 w4 k _ ?_
  walk_at "am"
  rw [if_neg hpos]
  refine divisor_ok v1 v2 v3 v4 k _ _ ?_
  rw [rat_gcd]
  walk_at "am"
  exact ⟨hr.1.cmul hb (by omega), ht.cmul hr.2 (by omega), fin_keep h⟩
/-- two ways of one fraction -/
theorem cross_dv {a b : Int} (h0 : b ≠ 0) {r : Rat} (e : Rat.divInt a b = r) : decide (r.num * b = a * r.den) = true := by
  subst e
  exact decide_eq_true (divInt_cross h0)
end FR
end

section
set_option linter.all false
set_option maxRecDepth 100000
set_option maxHeartbeats 1000000
/-! Totals. -/
open PySem
namespace AM
def f_total : Fn := ⟨["some"], ["some", "found", "one"],
  (.cons (.set 1 (.tup (.cons (.int 0) (.cons (.int 1) .nil))))
  (.cons (.for_ (.name 2) (.seq (.var 0)) (.cons (.set 1 (.call "plus" (.cons (.var 1) (.cons (.var 2) .nil))))
  .nil))
  (.cons (.ret (.var 1))
  .nil)))⟩
end AM
namespace FR
open PySem AM
local macro_rules | `(tactic| walk_at "am") => `(tactic| try simp only [st_set0, st_setS, iteTrue, iteFalse, iteDec, iteNDec, exSome, exBl, W_var, W_int, W_bl, W_non, W_str, W_tup, W_lst, W_bin, W_neg, W_cmp, W_isN, W_notN, W_chain, W_tst, W_ite, W_call, W_len, W_abs, W_isi, W_sub, WT_val, WT_not, WT_and, WT_or, WA_one, WA_cons, WO_one, WO_cons, WB_val, WB_not, WB_and, WB_or, WBA_one, WBA_cons, WBO_one, WBO_cons, WL_nil, WL_cons, WS_set, WS_ret, WS_retN, WS_pass, WS_brk, WS_cont, WS_drop, WS_ite, WS_raise, WSs_nil, Ss_set, Ss_ret, Ss_retN, Ss_pass, Ss_brk, Ss_cont, Ss_drop, Ss_raise, Ss_ite_ret, Ss_ite_retN, Ss_ite_raise, Ss_ite_cont, Ss_ite_brk, Ss_ite_last, gt_0, gt_S, wAdd_int, wSub_int, wMul_int, wDiv_int, wMod_int, wPow_int, wAdd_str, wNeg_int, wAbs_int, wLt_int, wLe_int, wGt_int, wGe_int, wEq_int, wNe_int, wEq_bl, wNe_bl, wEq_str, wNe_str, wLen_tup, wLen_lst, tru_bl, tru_int, ty_int_int, ty_int_bool, ty_int_str, ty_int_tuple, ty_int_list, ty_int_dict, ty_bl_int, ty_bl_bool, ty_bl_str, ty_bl_tuple, ty_bl_list, ty_bl_dict, ty_str_int, ty_str_bool, ty_str_str, ty_str_tuple, ty_str_list, ty_str_dict, ty_tup_int, ty_tup_bool, ty_tup_str, ty_tup_tuple, ty_tup_list, ty_tup_dict, ty_lst_int, ty_lst_bool, ty_lst_str, ty_lst_tuple, ty_lst_list, ty_lst_dict, ty_dct_int, ty_dct_bool, ty_dct_str, ty_dct_tuple, ty_dct_list, ty_dct_dict, ty_non, sub_tup0, sub_tup1, sub_tup2, sub_tup3, sub_tup4, sub_tup5, sub_lst0, sub_lst1, sub_lst2, sub_lst3, sub_lst4, sub_lst5, startA, List.map_cons, List.map_nil, List.length_cons, List.length_nil, List.replicate, List.cons_append, List.nil_append, true_and, and_true, ne_eq, isNon, Bool.not_true, Bool.not_false, Bool.true_or, Bool.or_true, Bool.false_or, reduceIte, Nat.reduceAdd, Nat.zero_add, Int.cast_ofNat_Int, Int.reduceEq, Int.reduceLT, Int.reduceLE, Nat.reduceLeDiff, decide_true, decide_false, not_true_eq_false, not_false_eq_true, Nat.reduceSub, Int.reduceToNat, W_slice, W_blt, W_mth, W_comp, WOe_none, WOe_some, WI_seq, WI_range1, WI_range2, WI_enum, WI_zip, WI_rev, WT0_none, WT0_some, Ss_asg, Ss_setSub, Ss_aug, WS_asg, WS_aug, WS_for, Ss_setC, bT_name, bT_tup, bT_lst, bTs_nil, bTs_name, seq_lst, seq_tup, seq_scr, seq_str, seq_loc, lst_lst, lst_scr, lst_loc, exInt, exLoc, exLst, exLst1, exLV_lst, exLV_loc, mOk_app, mOk_pop, mOk_ext, mOk_ins, mOk_ind, mOk_join, mOk_indl, m_append, m_pop, m_extend, m_insert, m_join, b_listL, b_listT, b_listS, b_listK, b_tupL, b_tupT, b_tupK, b_max2, b_min2, b_ord, b_str, sl_lst, sl_loc, sl_scr, sl_tupE, sl_strE, cat_lst, cat_loc, cat_tup, wLen_scr, wLen_loc, wLen_str, wSub_scr, wSub_loc, wSub_str, aug_add, aug_sub, tru_lst, tru_tup, tru_non, ty_scr_list, sg_p0, sg_pl, ss_p0, ss_pl, ob_set0, ob_set1, ob_set2, ob_set3, ob_g0, ob_g1, ob_g2, ob_g3, List.append_assoc, List.length_append, List.nil_append, Nat.add_zero, Nat.add_assoc, Int.reduceNeg, wipeA, at_0, at_1, at_2, at_3, at_4, at_5, ix_1_0, ix_2_0, ix_2_1, ix_3_0, ix_3_1, ix_3_2, ix_4_0, ix_4_1, ix_4_2, ix_4_3, va_s0, va_s1, va_s2, va_s3])
local macro_rules | `(tactic| walk_at "if") => `(tactic| (try simp only []); rw [Ss_ite]; simp only [st_set0, st_setS, iteTrue, iteFalse, iteDec, iteNDec, exSome, exBl, W_var, W_int, W_bl, W_non, W_str, W_tup, W_lst, W_bin, W_neg, W_cmp, W_isN, W_notN, W_chain, W_tst, W_ite, W_call, W_len, W_abs, W_isi, W_sub, WT_val, WT_not, WT_and, WT_or, WA_one, WA_cons, WO_one, WO_cons, WB_val, WB_not, WB_and, WB_or, WBA_one, WBA_cons, WBO_one, WBO_cons, WL_nil, WL_cons, WS_set, WS_ret, WS_retN, WS_pass, WS_brk, WS_cont, WS_drop, WS_ite, WS_raise, WSs_nil, Ss_set, Ss_ret, Ss_retN, Ss_pass, Ss_brk, Ss_cont, Ss_drop, Ss_raise, Ss_ite_ret, Ss_ite_retN, Ss_ite_raise, Ss_ite_cont, Ss_ite_brk, Ss_ite_last, gt_0, gt_S, wAdd_int, wSub_int, wMul_int, wDiv_int, wMod_int, wPow_int, wAdd_str, wNeg_int, wAbs_int, wLt_int, wLe_int, wGt_int, wGe_int, wEq_int, wNe_int, wEq_bl, wNe_bl, wEq_str, wNe_str, wLen_tup, wLen_lst, tru_bl, tru_int, ty_int_int, ty_int_bool, ty_int_str, ty_int_tuple, ty_int_list, ty_int_dict, ty_bl_int, ty_bl_bool, ty_bl_str, ty_bl_tuple, ty_bl_list, ty_bl_dict, ty_str_int, ty_str_bool, ty_str_str, ty_str_tuple, ty_str_list, ty_str_dict, ty_tup_int, ty_tup_bool, ty_tup_str, ty_tup_tuple, ty_tup_list, ty_tup_dict, ty_lst_int, ty_lst_bool, ty_lst_str, ty_lst_tuple, ty_lst_list, ty_lst_dict, ty_dct_int, ty_dct_bool, ty_dct_str, ty_dct_tuple, ty_dct_list, ty_dct_dict, ty_non, sub_tup0, sub_tup1, sub_tup2, sub_tup3, sub_tup4, sub_tup5, sub_lst0, sub_lst1, sub_lst2, sub_lst3, sub_lst4, sub_lst5, startA, List.map_cons, List.map_nil, List.length_cons, List.length_nil, List.replicate, List.cons_append, List.nil_append, true_and, and_true, ne_eq, isNon, Bool.not_true, Bool.not_false, Bool.true_or, Bool.or_true, Bool.false_or, reduceIte, Nat.reduceAdd, Nat.zero_add, Int.cast_ofNat_Int, Int.reduceEq, Int.reduceLT, Int.reduceLE, Nat.reduceLeDiff, decide_true, decide_false, not_true_eq_false, not_false_eq_true, Nat.reduceSub, Int.reduceToNat, W_slice, W_blt, W_mth, W_comp, WOe_none, WOe_some, WI_seq, WI_range1, WI_range2, WI_enum, WI_zip, WI_rev, WT0_none, WT0_some, Ss_asg, Ss_setSub, Ss_aug, WS_asg, WS_aug, WS_for, Ss_setC, bT_name, bT_tup, bT_lst, bTs_nil, bTs_name, seq_lst, seq_tup, seq_scr, seq_str, seq_loc, lst_lst, lst_scr, lst_loc, exInt, exLoc, exLst, exLst1, exLV_lst, exLV_loc, mOk_app, mOk_pop, mOk_ext, mOk_ins, mOk_ind, mOk_join, mOk_indl, m_append, m_pop, m_extend, m_insert, m_join, b_listL, b_listT, b_listS, b_listK, b_tupL, b_tupT, b_tupK, b_max2, b_min2, b_ord, b_str, sl_lst, sl_loc, sl_scr, sl_tupE, sl_strE, cat_lst, cat_loc, cat_tup, wLen_scr, wLen_loc, wLen_str, wSub_scr, wSub_loc, wSub_str, aug_add, aug_sub, tru_lst, tru_tup, tru_non, ty_scr_list, sg_p0, sg_pl, ss_p0, ss_pl, ob_set0, ob_set1, ob_set2, ob_set3, ob_g0, ob_g1, ob_g2, ob_g3, List.append_assoc, List.length_append, List.nil_append, Nat.add_zero, Nat.add_assoc, Int.reduceNeg, wipeA, at_0, at_1, at_2, at_3, at_4, at_5, ix_1_0, ix_2_0, ix_2_1, ix_3_0, ix_3_1, ix_3_2, ix_4_0, ix_4_1, ix_4_2, ix_4_3, va_s0, va_s1, va_s2, va_s3])
def sumQ (qs : List Rat) : Rat := qs.foldl (· + ·) 0
theorem sumQ_snoc (qs : List Rat) (q : Rat) : sumQ (qs ++ [q]) = sumQ qs + q := by simp [sumQ]
theorem take_snoc {α : Type} {xs : List α} {i : Nat} {x : α} (h : xs[i]? = some x) : xs.take (i + 1) = xs.take i ++ [x] := by
  rw [List.take_succ, h]; rfl
/-- top and bottom, unreduced -/
def tb (qs : List Rat) : Int × Int := qs.foldl (fun z q => (z.1 * q.den + q.num * z.2, z.2 * q.den)) (0, 1)
theorem tb_snoc (qs : List Rat) (q : Rat) : tb (qs ++ [q]) = ((tb qs).1 * q.den + q.num * (tb qs).2, (tb qs).2 * q.den) := by simp [tb]
theorem snoc_ind {α : Type} {P : List α → Prop} (h0 : P []) (h1 : ∀ xs x, P xs → P (xs ++ [x])) : ∀ xs, P xs := by
  intro xs
  have key : ∀ ys : List α, P ys.reverse := by
    intro ys
    induction ys with
    | nil => exact h0
    | cons y ys ih => rw [List.reverse_cons]; exact h1 _ _ ih
  have := key xs.reverse
  rwa [List.reverse_reverse] at this
theorem tb_ok {m : Nat} : ∀ qs : List Rat, (∀ q ∈ qs, BQ m q) → (tb qs).2 ≠ 0 ∧ Rat.divInt (tb qs).1 (tb qs).2 = sumQ qs ∧ B (qs.length * (m + 1) + 1) (tb qs).1 ∧ B (qs.length * (m + 1) + 1) (tb qs).2 := by
  refine snoc_ind ?_ ?_
  · intro _
    exact ⟨by decide, rfl, (show B 0 0 by show (0 : Nat) < 2 ^ 0; decide).mono (by omega), (show B 1 1 by show (1 : Nat) < 2 ^ 1; decide).mono (by omega)⟩
  · intro qs q ih h
    obtain ⟨h1, h2, h3, h4⟩ := ih fun x hx => h x (List.mem_append_left _ hx)
    have hq := h q (by simp)
    rw [tb_snoc, sumQ_snoc, ← h2]
    have e : (qs ++ [q]).length * (m + 1) + 1 = qs.length * (m + 1) + 1 + (m + 1) := by
      rw [List.length_append, List.length_singleton, Nat.add_mul]; omega
    rw [e]
    refine ⟨Int.mul_ne_zero h1 (den_ne q), ?_, ?_, ?_⟩
    · have hh := Rat.divInt_add_divInt (tb qs).1 q.num h1 (den_ne q)
      rw [Rat.num_divInt_den] at hh
      rw [hh]
    · exact (B.add (h3.mul hq.2) ((hq.1.mul h4).mono (by omega))).mono (by omega)
    · exact (h4.mul hq.2).mono (by omega)
theorem sumQ_B {m : Nat} {qs : List Rat} (h : ∀ q ∈ qs, BQ m q) : BQ (qs.length * (m + 1) + 1) (sumQ qs) := by
  obtain ⟨h1, h2, h3, h4⟩ := tb_ok qs h
  rw [← h2]
  exact BQ.of h3 h4 h1
theorem total_ok {T : Tab} (t1 : T "divisor" = some f_divisor) (t2 : T "fraction" = some f_fraction) (t3 : T "plus" = some f_plus) (t4 : T "total" = some f_total) (k : Nat) (qs : List Rat) {m : Nat} (hq : ∀ q ∈ qs, BQ m q) (hl : qs.length * (m + 1) + m + 1 ≤ 4000)
    {v : Va} {S : Sto} {P : PV} {E : PX} (hv : LV S v (qs.map Qv)) (h : P (Qv (sumQ qs)) S) : call T (k + 4) "total" [v] S P E := by
  refine call_def t4 rfl ?_
  unfold f_total
  walk_at "am"
  refine seq_cut (call_mono _ _) (fun Γ S' => S = S' ∧ ∃ o, Γ = [some v, some (Qv (sumQ qs)), o]) ?_ ?_
  · walk_at "am"
    refine hv.seq fun G hG => ⟨hG _ fun _ _ z => z, ?_⟩
    refine for_ix (call_mono _ _) (fun i Γ S' => S = S' ∧ ∃ o, Γ = [some v, some (Qv (sumQ (qs.take i))), o]) ?_ ?_ ?_
    · exact ⟨rfl, none, rfl⟩
    · rintro i x Γ S' hx ⟨rfl, o, rfl⟩
      rw [List.getElem?_map] at hx
      obtain ⟨q, h1, rfl⟩ := Option.map_eq_some_iff.mp hx
      refine ⟨_, rfl, ?_⟩
      walk_at "am"
      have hi : i < qs.length := lt_of_get h1
      have hb := sumQ_B (m := m) (qs := qs.take i) fun x hx => hq x (List.mem_of_mem_take hx)
      rw [List.length_take, Nat.min_eq_left (by omega)] at hb
      have hi2 : i * (m + 1) ≤ qs.length * (m + 1) := Nat.mul_le_mul_right _ (by omega)
      refine plus_ok t1 t2 t3 k _ _ (n := i * (m + 1) + 1 + m) (hb.mono (by omega)) ((hq q (List.mem_of_getElem? h1)).mono (by omega)) (by omega) ?_
      rw [← sumQ_snoc, ← take_snoc h1]
      exact ⟨hG _ fun _ _ z => z, rfl, _, rfl⟩
    · rintro Γ S' ⟨rfl, o, rfl⟩
      rw [List.length_map, List.take_length]
      exact ⟨rfl, o, rfl⟩
  rintro Γ' S' ⟨rfl, o, rfl⟩
  walk_at "am"
  exact fin_keep h
theorem datQ (q : Rat) : dat (Qv q) = true ∧ dep (Qv q) = 1 := ⟨rfl, rfl⟩
theorem plQ (q : Rat) : pl (Qv q) = true := rfl
theorem plsQ (qs : List Rat) : pls (qs.map Qv) = true := pls_iff.mpr fun x hx => by
  obtain ⟨q, _, rfl⟩ := List.mem_map.mp hx
  rfl
theorem datsQ (qs : List Rat) : dat (.lst (qs.map Qv)) = true ∧ dep (.lst (qs.map Qv)) ≤ 2 := by
  refine ⟨dats_iff.mpr fun x hx => ?_, Nat.succ_le_succ (deps_le fun x hx => ?_)⟩
  · obtain ⟨q, _, rfl⟩ := List.mem_map.mp hx
    rfl
  · obtain ⟨q, _, rfl⟩ := List.mem_map.mp hx
    exact Nat.le_refl _
end FR
end

section
set_option linter.all false
set_option maxRecDepth 100000
set_option maxHeartbeats 1000000
open PySem
namespace AM
def f_l_divisor : Fn := ⟨["_law_one", "_law_other"], ["_law_one", "_law_other", "_law_rest"],
  (.cons (.set 0 (.abs (.var 0)))
  (.cons (.set 1 (.abs (.var 1)))
  (.cons (.whil (.val (.cmp .ne (.var 1) (.int 0))) (.cons (.set 2 (.bin .mod (.var 0) (.var 1)))
  (.cons (.set 0 (.var 1))
  (.cons (.set 1 (.var 2))
  .nil))))
  (.cons (.ret (.var 0))
  .nil))))⟩
def f_l_large : Fn := ⟨["_law_script"], ["_law_script", "_law_some", "_law_cell"],
  (.cons (.set 1 (.lst .nil))
  (.cons (.for_ (.name 2) (.seq (.slice (.var 0) (.some (.int 2)) (.some (.int 8)))) (.cons (.drop (.mth .append (.var 1) (.cons (.call "_law_lowest" (.cons (.call "_law_signed" (.cons (.var 2) (.cons (.bin .pow (.int 10) (.int 30)) .nil))) (.cons (.bin .add (.int 1) (.bin .mod (.bin .fdiv (.bin .mul (.var 2) (.var 2)) (.int 11)) (.bin .pow (.int 10) (.int 30)))) .nil))) .nil)))
  .nil))
  (.cons (.ret (.var 1))
  .nil)))⟩
def f_l_many : Fn := ⟨["_law_script"], ["_law_script", "_law_some", "_law_mixed", "_law_k", "_law_below"],
  (.cons (.set 1 (.lst .nil))
  (.cons (.set 2 (.bin .mod (.call "_law_cell_at" (.cons (.var 0) (.cons (.int 2) .nil))) (.int 2147483647)))
  (.cons (.for_ (.name 3) (.range1 (.bin .mod (.call "_law_cell_at" (.cons (.var 0) (.cons (.int 1) .nil))) (.int 31))) (.cons (.set 2 (.bin .mod (.bin .add (.bin .add (.bin .mul (.var 2) (.int 48271)) (.int 11)) (.var 3)) (.int 2147483647)))
  (.cons (.set 4 (.bin .add (.int 1) (.bin .mod (.bin .fdiv (.var 2) (.int 7)) (.int 12))))
  (.cons (.set 2 (.bin .mod (.bin .add (.bin .mul (.var 2) (.int 48271)) (.int 5)) (.int 2147483647)))
  (.cons (.drop (.mth .append (.var 1) (.cons (.call "_law_lowest" (.cons (.call "_law_signed" (.cons (.var 2) (.cons (.bin .pow (.int 10) (.int 9)) .nil))) (.cons (.var 4) .nil))) .nil)))
  .nil)))))
  (.cons (.ret (.var 1))
  .nil))))⟩
def f_law : Fn := ⟨["_law_script"], ["_law_script", "_law_some", "_law_way", "_law_one", "_law_top", "_law_bottom", "_law_handed", "_law_found"],
  (.cons (.ite (.val (.cmp .eq (.bin .mod (.call "_law_cell_at" (.cons (.var 0) (.cons (.int 0) .nil))) (.int 2)) (.int 1))) (.cons (.set 1 (.call "_law_large" (.cons (.var 0) .nil)))
  .nil) (.cons (.set 1 (.call "_law_many" (.cons (.var 0) .nil)))
  .nil))
  (.cons (.set 2 (.bin .mod (.bin .fdiv (.call "_law_cell_at" (.cons (.var 0) (.cons (.int 0) .nil))) (.int 2)) (.int 3)))
  (.cons (.ite (.val (.cmp .eq (.var 2) (.int 1))) (.cons (.set 1 (.bin .add (.var 1) (.comp [3] (.tup (.cons (.neg (.sub (.var 3) (.int 0))) (.cons (.sub (.var 3) (.int 1)) .nil))) (.name 3) (.seq (.var 1)) .none)))
  .nil) .nil)
  (.cons (.ite (.val (.cmp .eq (.var 2) (.int 2))) (.cons (.set 1 (.bin .add (.var 1) (.slice (.var 1) .none (.some (.int 6)))))
  .nil) .nil)
  (.cons (.set 4 (.int 0))
  (.cons (.set 5 (.int 1))
  (.cons (.for_ (.name 3) (.seq (.var 1)) (.cons (.set 4 (.bin .add (.bin .mul (.var 4) (.sub (.var 3) (.int 1))) (.bin .mul (.sub (.var 3) (.int 0)) (.var 5))))
  (.cons (.set 5 (.bin .mul (.var 5) (.sub (.var 3) (.int 1))))
  .nil)))
  (.cons (.set 6 (.blt .list (.cons (.var 1) .nil)))
  (.cons (.set 7 (.call "total" (.cons (.var 6) .nil)))
  (.cons (.ite (.or (.cons (.val (.cmp .ne (.var 6) (.var 1))) (.one (.val (.cmp .ne (.len (.var 6)) (.len (.var 1))))))) (.cons (.ret (.bl false))
  .nil) .nil)
  (.cons (.ret (.call "_law_comes_to" (.cons (.var 7) (.cons (.var 4) (.cons (.var 5) .nil)))))
  .nil)))))))))))⟩
end AM
open AM
namespace Hd
open PySem AM
def T : Tab := fun x => ([("divisor", f_divisor), ("fraction", f_fraction), ("plus", f_plus), ("total", f_total), ("_law_cell_at", f_l_cell_at), ("_law_whole", f_l_whole), ("_law_signed", f_l_signed), ("_law_divisor", f_l_divisor), ("_law_lowest", f_l_lowest), ("_law_comes_to", f_l_comes_to), ("_law_large", f_l_large), ("_law_many", f_l_many), ("law", f_law)] : List (Str × Fn)).lookup x
end Hd
namespace LawProof
open PySem AM FR
local macro_rules | `(tactic| walk_at "am") => `(tactic| try simp only [st_set0, st_setS, iteTrue, iteFalse, iteDec, iteNDec, exSome, exBl, W_var, W_int, W_bl, W_non, W_str, W_tup, W_lst, W_bin, W_neg, W_cmp, W_isN, W_notN, W_chain, W_tst, W_ite, W_call, W_len, W_abs, W_isi, W_sub, WT_val, WT_not, WT_and, WT_or, WA_one, WA_cons, WO_one, WO_cons, WB_val, WB_not, WB_and, WB_or, WBA_one, WBA_cons, WBO_one, WBO_cons, WL_nil, WL_cons, WS_set, WS_ret, WS_retN, WS_pass, WS_brk, WS_cont, WS_drop, WS_ite, WS_raise, WSs_nil, Ss_set, Ss_ret, Ss_retN, Ss_pass, Ss_brk, Ss_cont, Ss_drop, Ss_raise, Ss_ite_ret, Ss_ite_retN, Ss_ite_raise, Ss_ite_cont, Ss_ite_brk, Ss_ite_last, gt_0, gt_S, wAdd_int, wSub_int, wMul_int, wDiv_int, wMod_int, wPow_int, wAdd_str, wNeg_int, wAbs_int, wLt_int, wLe_int, wGt_int, wGe_int, wEq_int, wNe_int, wEq_bl, wNe_bl, wEq_str, wNe_str, wLen_tup, wLen_lst, tru_bl, tru_int, ty_int_int, ty_int_bool, ty_int_str, ty_int_tuple, ty_int_list, ty_int_dict, ty_bl_int, ty_bl_bool, ty_bl_str, ty_bl_tuple, ty_bl_list, ty_bl_dict, ty_str_int, ty_str_bool, ty_str_str, ty_str_tuple, ty_str_list, ty_str_dict, ty_tup_int, ty_tup_bool, ty_tup_str, ty_tup_tuple, ty_tup_list, ty_tup_dict, ty_lst_int, ty_lst_bool, ty_lst_str, ty_lst_tuple, ty_lst_list, ty_lst_dict, ty_dct_int, ty_dct_bool, ty_dct_str, ty_dct_tuple, ty_dct_list, ty_dct_dict, ty_non, sub_tup0, sub_tup1, sub_tup2, sub_tup3, sub_tup4, sub_tup5, sub_lst0, sub_lst1, sub_lst2, sub_lst3, sub_lst4, sub_lst5, startA, List.map_cons, List.map_nil, List.length_cons, List.length_nil, List.replicate, List.cons_append, List.nil_append, true_and, and_true, ne_eq, isNon, Bool.not_true, Bool.not_false, Bool.true_or, Bool.or_true, Bool.false_or, reduceIte, Nat.reduceAdd, Nat.zero_add, Int.cast_ofNat_Int, Int.reduceEq, Int.reduceLT, Int.reduceLE, Nat.reduceLeDiff, decide_true, decide_false, not_true_eq_false, not_false_eq_true, Nat.reduceSub, Int.reduceToNat, W_slice, W_blt, W_mth, W_comp, WOe_none, WOe_some, WI_seq, WI_range1, WI_range2, WI_enum, WI_zip, WI_rev, WT0_none, WT0_some, Ss_asg, Ss_setSub, Ss_aug, WS_asg, WS_aug, WS_for, Ss_setC, bT_name, bT_tup, bT_lst, bTs_nil, bTs_name, seq_lst, seq_tup, seq_scr, seq_str, seq_loc, lst_lst, lst_scr, lst_loc, exInt, exLoc, exLst, exLst1, exLV_lst, exLV_loc, mOk_app, mOk_pop, mOk_ext, mOk_ins, mOk_ind, mOk_join, mOk_indl, m_append, m_pop, m_extend, m_insert, m_join, b_listL, b_listT, b_listS, b_listK, b_tupL, b_tupT, b_tupK, b_max2, b_min2, b_ord, b_str, sl_lst, sl_loc, sl_scr, sl_tupE, sl_strE, cat_lst, cat_loc, cat_tup, wLen_scr, wLen_loc, wLen_str, wSub_scr, wSub_loc, wSub_str, aug_add, aug_sub, tru_lst, tru_tup, tru_non, ty_scr_list, sg_p0, sg_pl, ss_p0, ss_pl, ob_set0, ob_set1, ob_set2, ob_set3, ob_g0, ob_g1, ob_g2, ob_g3, List.append_assoc, List.length_append, List.nil_append, Nat.add_zero, Nat.add_assoc, Int.reduceNeg, wipeA, at_0, at_1, at_2, at_3, at_4, at_5, ix_1_0, ix_2_0, ix_2_1, ix_3_0, ix_3_1, ix_3_2, ix_4_0, ix_4_1, ix_4_2, ix_4_3, va_s0, va_s1, va_s2, va_s3])
local macro_rules | `(tactic| walk_at "if") => `(tactic| (try simp only []); rw [Ss_ite]; simp only [st_set0, st_setS, iteTrue, iteFalse, iteDec, iteNDec, exSome, exBl, W_var, W_int, W_bl, W_non, W_str, W_tup, W_lst, W_bin, W_neg, W_cmp, W_isN, W_notN, W_chain, W_tst, W_ite, W_call, W_len, W_abs, W_isi, W_sub, WT_val, WT_not, WT_and, WT_or, WA_one, WA_cons, WO_one, WO_cons, WB_val, WB_not, WB_and, WB_or, WBA_one, WBA_cons, WBO_one, WBO_cons, WL_nil, WL_cons, WS_set, WS_ret, WS_retN, WS_pass, WS_brk, WS_cont, WS_drop, WS_ite, WS_raise, WSs_nil, Ss_set, Ss_ret, Ss_retN, Ss_pass, Ss_brk, Ss_cont, Ss_drop, Ss_raise, Ss_ite_ret, Ss_ite_retN, Ss_ite_raise, Ss_ite_cont, Ss_ite_brk, Ss_ite_last, gt_0, gt_S, wAdd_int, wSub_int, wMul_int, wDiv_int, wMod_int, wPow_int, wAdd_str, wNeg_int, wAbs_int, wLt_int, wLe_int, wGt_int, wGe_int, wEq_int, wNe_int, wEq_bl, wNe_bl, wEq_str, wNe_str, wLen_tup, wLen_lst, tru_bl, tru_int, ty_int_int, ty_int_bool, ty_int_str, ty_int_tuple, ty_int_list, ty_int_dict, ty_bl_int, ty_bl_bool, ty_bl_str, ty_bl_tuple, ty_bl_list, ty_bl_dict, ty_str_int, ty_str_bool, ty_str_str, ty_str_tuple, ty_str_list, ty_str_dict, ty_tup_int, ty_tup_bool, ty_tup_str, ty_tup_tuple, ty_tup_list, ty_tup_dict, ty_lst_int, ty_lst_bool, ty_lst_str, ty_lst_tuple, ty_lst_list, ty_lst_dict, ty_dct_int, ty_dct_bool, ty_dct_str, ty_dct_tuple, ty_dct_list, ty_dct_dict, ty_non, sub_tup0, sub_tup1, sub_tup2, sub_tup3, sub_tup4, sub_tup5, sub_lst0, sub_lst1, sub_lst2, sub_lst3, sub_lst4, sub_lst5, startA, List.map_cons, List.map_nil, List.length_cons, List.length_nil, List.replicate, List.cons_append, List.nil_append, true_and, and_true, ne_eq, isNon, Bool.not_true, Bool.not_false, Bool.true_or, Bool.or_true, Bool.false_or, reduceIte, Nat.reduceAdd, Nat.zero_add, Int.cast_ofNat_Int, Int.reduceEq, Int.reduceLT, Int.reduceLE, Nat.reduceLeDiff, decide_true, decide_false, not_true_eq_false, not_false_eq_true, Nat.reduceSub, Int.reduceToNat, W_slice, W_blt, W_mth, W_comp, WOe_none, WOe_some, WI_seq, WI_range1, WI_range2, WI_enum, WI_zip, WI_rev, WT0_none, WT0_some, Ss_asg, Ss_setSub, Ss_aug, WS_asg, WS_aug, WS_for, Ss_setC, bT_name, bT_tup, bT_lst, bTs_nil, bTs_name, seq_lst, seq_tup, seq_scr, seq_str, seq_loc, lst_lst, lst_scr, lst_loc, exInt, exLoc, exLst, exLst1, exLV_lst, exLV_loc, mOk_app, mOk_pop, mOk_ext, mOk_ins, mOk_ind, mOk_join, mOk_indl, m_append, m_pop, m_extend, m_insert, m_join, b_listL, b_listT, b_listS, b_listK, b_tupL, b_tupT, b_tupK, b_max2, b_min2, b_ord, b_str, sl_lst, sl_loc, sl_scr, sl_tupE, sl_strE, cat_lst, cat_loc, cat_tup, wLen_scr, wLen_loc, wLen_str, wSub_scr, wSub_loc, wSub_str, aug_add, aug_sub, tru_lst, tru_tup, tru_non, ty_scr_list, sg_p0, sg_pl, ss_p0, ss_pl, ob_set0, ob_set1, ob_set2, ob_set3, ob_g0, ob_g1, ob_g2, ob_g3, List.append_assoc, List.length_append, List.nil_append, Nat.add_zero, Nat.add_assoc, Int.reduceNeg, wipeA, at_0, at_1, at_2, at_3, at_4, at_5, ix_1_0, ix_2_0, ix_2_1, ix_3_0, ix_3_1, ix_3_2, ix_4_0, ix_4_1, ix_4_2, ix_4_3, va_s0, va_s1, va_s2, va_s3])
theorem cell (ns : List Int) (k : Nat) (i : Int) (hi : 0 ≤ i) {S : Sto} {P : PV} {E : PX} (h : P (.int (cl ns i)) S) : call Hd.T (k + 1) "_law_cell_at" [.scr ns, .int i] S P E := cell_ok (d := f_l_cell_at) rfl rfl rfl rfl k ns i hi h
theorem sgn (k : Nat) (c m : Int) (hm : m ≠ 0) {S : Sto} {P : PV} {E : PX} (h : P (.int (sg c m)) S) : call Hd.T (k + 1) "_law_signed" [.int c, .int m] S P E := signed_ok (d := f_l_signed) rfl rfl rfl rfl k c m hm h
theorem low (k : Nat) (a b : Int) {n : Nat} (ha : B n a) (hb : B n b) (h0 : 0 < b) (hn : n ≤ 9000) {S : Sto} {P : PV} {E : PX} (h : ∀ r, BQ n r → P (Qv r) S) : call Hd.T (k + 2) "_law_lowest" [.int a, .int b] S P E :=
  lowest_ok (d := f_l_lowest) rfl rfl rfl rfl (e2 := f_l_divisor) rfl rfl rfl rfl k a b h0 hb hn (h _ (BQ.of ha hb (by omega)))
theorem log2_le_of {i : Int} {n : Nat} (h : Builtin.Int.intBits i ≤ n) : i.natAbs.log2 ≤ n := by
  unfold Builtin.Int.intBits at h
  split at h
  · rename_i z
    have e : i = 0 := by simpa using z
    subst e
    exact Nat.zero_le _
  · omega
theorem large_ok (ns : List Int) (hb : ∀ z ∈ ns, Builtin.Int.intBits z ≤ 1048576) {S : Sto} {P : PV} {E : PX} (h : ∀ qs : List Rat, qs.length ≤ 6 → (∀ q ∈ qs, BQ 100 q) → P (.lst (qs.map Qv)) S) : call Hd.T 9 "_law_large" [.scr ns] S P E := by
  refine call_def (d := f_l_large) rfl rfl ?_
  have c30 : L2.CPow 10 30 := ⟨by decide, by decide, by decide⟩
  unfold f_l_large
  walk_at "am"
  refine seq_cut (call_mono _ _) (fun Γ S' => ∃ qs : List Rat, qs.length ≤ 6 ∧ (∀ q ∈ qs, BQ 100 q) ∧ (∃ N, S' = S ++ (.lst (qs.map Qv) :: N)) ∧ ∃ o, Γ = [some (.scr ns), some (.loc S.length), o]) ?_ ?_
  · walk_at "am"
    have hcut : ∀ z ∈ cutA ns (some 2) (some 8), z ∈ ns := fun z hz => List.mem_of_mem_drop (List.mem_of_mem_take hz)
    have hlen : (cutA ns (some 2) (some 8)).length ≤ 6 := by
      have e1 : HT.sIx ns.length 0 (some 2) = min 2 ns.length := HT.sIx_nat _ _ 2
      have e2 : HT.sIx ns.length ns.length (some 8) = min 8 ns.length := HT.sIx_nat _ _ 8
      unfold cutA
      rw [e1, e2, List.length_take, List.length_drop]
      omega
    generalize cutA ns (some 2) (some 8) = cs at *
    refine for_ix (call_mono _ _) (fun i Γ S' => ∃ qs : List Rat, qs.length = i ∧ (∀ q ∈ qs, BQ 100 q) ∧ S' = S ++ [.lst (qs.map Qv), .lst (cs.map Va.int)] ∧ ∃ o, Γ = [some (.scr ns), some (.loc S.length), o]) ?_ ?_ ?_
    · exact ⟨[], rfl, by simp, rfl, none, rfl⟩
    · rintro i x Γ S' hx ⟨qs, h1, h2, rfl, o, rfl⟩
      rw [List.getElem?_map] at hx
      obtain ⟨c, hc, rfl⟩ := Option.map_eq_some_iff.mp hx
      refine ⟨_, rfl, ?_⟩
      walk_at "am"
      refine ⟨c30, sgn _ _ _ (by decide) ?_⟩
      walk_at "am"
      have hz := log2_le_of (hb c (hcut c (List.mem_of_getElem? hc)))
      have cm : CMulA c c := by unfold CMulA; omega
      have cd : CDivA 11 := cdiv_small (by decide) (by decide)
      refine ⟨cm, cd, c30, ?_⟩
      have s1 := sg_lt c (10 ^ 30) (by decide)
      have s3 := cl_lt ((c * c).fdiv 11) (10 ^ 30) (by decide)
      have hB : ∀ {i : Int}, i.natAbs ≤ 10 ^ 30 → B 100 i := fun h => Nat.lt_of_le_of_lt h (by decide)
      refine ⟨by decide, ?_⟩
      refine low _ _ _ (n := 100) ?_ ?_ ?_ (by decide) fun r hr => ?_
      · exact hB (by omega)
      · exact hB (by omega)
      · omega
      walk_at "am"
      have hi := lt_of_get hc
      refine ⟨by rw [List.length_map, h1]; omega, qs ++ [r], by simp [h1], ?_, by simp⟩
      intro q hq
      rcases List.mem_append.mp hq with z | z
      · exact h2 q z
      · rw [List.mem_singleton.mp z]; exact hr
    · rintro Γ S' ⟨qs, h1, h2, rfl, o, rfl⟩
      rw [List.length_map] at h1
      exact ⟨qs, by omega, h2, ⟨_, rfl⟩, o, rfl⟩
  rintro Γ' S' ⟨qs, h1, h2, ⟨N, rfl⟩, o, rfl⟩
  walk_at "am"
  exact fin_lst0 rfl (plsQ qs) (h qs h1 h2)
theorem many_ok (ns : List Int) {S : Sto} {P : PV} {E : PX} (h : ∀ qs : List Rat, qs.length ≤ 30 → (∀ q ∈ qs, BQ 30 q) → P (.lst (qs.map Qv)) S) : call Hd.T 9 "_law_many" [.scr ns] S P E := by
  refine call_def (d := f_l_many) rfl rfl ?_
  have c9 : L2.CPow 10 9 := ⟨by decide, by decide, by decide⟩
  unfold f_l_many
  walk_at "am"
  refine cell ns 7 2 (by decide) ?_
  walk_at "am"
  have mx : ∀ c : Int, 0 ≤ c.fmod 2147483647 ∧ c.fmod 2147483647 < 2147483647 := fun c => cl_lt c _ (by decide)
  refine seq_cut (call_mono _ _) (fun Γ S' => ∃ qs : List Rat, qs.length ≤ 30 ∧ (∀ q ∈ qs, BQ 30 q) ∧ (∃ N, S' = S ++ (.lst (qs.map Qv) :: N)) ∧ ∃ o2 o3 o4, Γ = [some (.scr ns), some (.loc S.length), o2, o3, o4]) ?_ ?_
  · walk_at "am"
    refine cell ns 7 1 (by decide) ?_
    walk_at "am"
    have l31 := cl_lt (cl ns 1) 31 (by decide)
    refine ⟨by omega, by omega, ?_⟩
    refine for_ix (call_mono _ _) (fun i Γ S' => ∃ qs : List Rat, qs.length = i ∧ (∀ q ∈ qs, BQ 30 q) ∧ S' = S ++ [.lst (qs.map Qv)] ∧ ∃ m : Int, (0 ≤ m ∧ m < 2147483647) ∧ ∃ o3 o4, Γ = [some (.scr ns), some (.loc S.length), some (.int m), o3, o4]) ?_ ?_ ?_
    · exact ⟨[], rfl, by simp, rfl, _, mx _, none, none, rfl⟩
    · rintro i x Γ S' hx ⟨qs, h1, h2, rfl, m, hm, o3, o4, rfl⟩
      obtain ⟨hi, rfl⟩ := rangeV_get hx
      refine ⟨_, rfl, ?_⟩
      walk_at "am"
      have hB : ∀ {i : Int} {n : Nat}, i.natAbs < 2 ^ n → B n i := fun h => h
      have cm1 : CMulA m 48271 := B.cmul (m := 31) (n := 16) (hB (by omega)) (hB (by decide)) (by decide)
      have m2 := mx (m * 48271 + 11 + (0 + (i : Int)))
      have m3 := mx ((m * 48271 + 11 + (0 + (i : Int))).fmod 2147483647 * 48271 + 5)
      generalize (m * 48271 + 11 + (0 + (i : Int))).fmod 2147483647 = m' at *
      have cm2 : CMulA m' 48271 := B.cmul (m := 31) (n := 16) (hB (by omega)) (hB (by decide)) (by decide)
      have cd : CDivA 7 := cdiv_small (by decide) (by decide)
      refine ⟨cm1, cd, cm2, c9, ?_⟩
      generalize (m' * 48271 + 5).fmod 2147483647 = m'' at *
      refine sgn _ _ _ (by decide) ?_
      have s1 := sg_lt m'' (10 ^ 9) (by decide)
      have s3 := cl_lt (m'.fdiv 7) 12 (by decide)
      refine low _ _ _ (n := 30) ?_ ?_ ?_ (by decide) fun r hr => ?_
      · exact hB (by omega)
      · exact hB (by omega)
      · omega
      walk_at "am"
      refine ⟨by rw [List.length_map, h1]; omega, qs ++ [r], by simp [h1], ?_, by simp, m'', m3, _, _, rfl⟩
      intro q hq
      rcases List.mem_append.mp hq with z | z
      · exact h2 q z
      · rw [List.mem_singleton.mp z]; exact hr
    · rintro Γ S' ⟨qs, h1, h2, rfl, m, hm, o3, o4, rfl⟩
      rw [rangeV_len] at h1
      exact ⟨qs, by omega, h2, ⟨_, rfl⟩, _, o3, o4, rfl⟩
  rintro Γ' S' ⟨qs, h1, h2, ⟨N, rfl⟩, o2, o3, o4, rfl⟩
  walk_at "am"
  exact fin_lst0 rfl (plsQ qs) (h qs h1 h2)
theorem law_holds (ns : List Int) (hl : ns.length ≤ 63) (hb : ∀ z ∈ ns, Builtin.Int.intBits z ≤ 1048576) : call Hd.T 10 "law" [.scr ns] [] (fun v _ => v = .bl true) (fun _ _ => False) := by
  refine call_def (d := f_law) rfl rfl ?_
  unfold f_law
  refine seq_cut (call_mono _ _) (fun Γ S' => [] = S' ∧ ∃ (qs : List Rat) (m : Nat), (2 * qs.length) * (m + 1) + m + 1 ≤ 1900 ∧ (qs.length + 6) * (m + 1) + m + 1 ≤ 1900 ∧ (∀ q ∈ qs, BQ m q) ∧ Γ = [some (.scr ns), some (.lst (qs.map Qv)), none, none, none, none, none, none]) ?_ ?_
  · walk_at "am"
    refine cell ns 8 0 (by decide) ?_
    walk_at "am"
    split
    · exact large_ok ns hb fun qs h1 h2 => ⟨rfl, qs, 100, by omega, by omega, h2, rfl⟩
    · exact many_ok ns fun qs h1 h2 => ⟨rfl, qs, 30, by omega, by omega, h2, rfl⟩
  rintro Γ' S' ⟨rfl, qs, m, b1, b2, hq, rfl⟩
  walk_at "am"
  refine cell ns 8 0 (by decide) ?_
  walk_at "am"
  refine ⟨cdiv_small (by decide) (by decide), ?_⟩
  generalize ((cl ns 0).fdiv 2).fmod 3 = way
  have hql : qs.length ≤ 1000 := by
    have := Nat.le_mul_of_pos_right (2 * qs.length) (show 0 < m + 1 by omega)
    omega
  refine seq_cut (call_mono _ _) (fun Γ S' => ∃ (qs' : List Rat) (v : Va), qs'.length * (m + 1) + m + 1 ≤ 1900 ∧ (way = 2 → qs' = qs) ∧ (∀ q ∈ qs', BQ m q) ∧ LV S' v (qs'.map Qv) ∧ Γ = [some (.scr ns), some v, some (.int way), none, none, none, none, none]) ?_ ?_
  · walk_at "am"
    split
    · rename_i hw
      subst hw
      refine cpL_map (call_mono _ _) (S1 := []) (fun v => match v with | .tup [.int a, .int b] => some (.tup [.int (-a), .int b]) | _ => none) (by rw [List.length_map]; omega) (fun _ => trivial) ?_ ?_
      · intro x hx acc
        obtain ⟨q, h1, rfl⟩ := List.mem_map.mp hx
        refine ⟨_, rfl, ?_⟩
        unfold Qv
        walk_at "am"
      · have e : (qs.map Qv).filterMap (fun v => match v with | .tup [.int a, .int b] => some (.tup [.int (-a), .int b]) | _ => none) = (qs.map (fun q => -q)).map Qv := by
          rw [List.filterMap_map, List.map_map]
          rw [← List.filterMap_eq_map]
          congr 1
        rw [e]
        walk_at "am"
        refine ⟨by simp; omega, qs ++ qs.map (fun q => -q), .loc 1, by rw [List.length_append, List.length_map]; rw [show qs.length + qs.length = 2 * qs.length by omega]; exact b1, fun z => z.elim, ?_, ?_, rfl⟩
        · intro q hq'
          rcases List.mem_append.mp hq' with z | z
          · exact hq q z
          · obtain ⟨q', h1, rfl⟩ := List.mem_map.mp z
            exact (hq q' h1).neg
        · exact .inr ⟨1, rfl, by simp⟩
    · refine ⟨qs, _, ?_, fun _ => rfl, hq, .inl rfl, rfl⟩
      have : qs.length * (m + 1) ≤ (2 * qs.length) * (m + 1) := Nat.mul_le_mul_right _ (by omega)
      omega
  rintro Γ' S' ⟨qs', v, b3, b4, hq', hv, rfl⟩
  refine seq_cut (call_mono _ _) (fun Γ S' => ∃ (qs' : List Rat) (v : Va), qs'.length * (m + 1) + m + 1 ≤ 1900 ∧ (∀ q ∈ qs', BQ m q) ∧ LV S' v (qs'.map Qv) ∧ Γ = [some (.scr ns), some v, some (.int way), none, none, none, none, none]) ?_ ?_
  · walk_at "am"
    split
    · rename_i hw
      have e := b4 hw
      subst e
      refine hv.slice ?_
      refine (hv.more _).cat LV.here (by
        have : (cutA (qs'.map Qv) none (some 6)).length ≤ (qs'.map Qv).length := by unfold cutA; rw [List.length_take, List.length_drop]; omega
        rw [List.length_map] at this ⊢
        omega) ?_
      have e : cutA (qs'.map Qv) none (some 6) = (qs'.take 6).map Qv := by
        have e2 : HT.sIx (qs'.map Qv).length (qs'.map Qv).length (some 6) = min 6 (qs'.map Qv).length := HT.sIx_nat _ _ 6
        unfold cutA
        rw [e2, HT.sIx_none, Nat.sub_zero, List.drop_zero, List.map_take, ← List.take_take, List.take_length]
      rw [e, ← List.map_append]
      refine ⟨qs' ++ qs'.take 6, _, ?_, ?_, LV.here, rfl⟩
      · rw [List.length_append, List.length_take]
        have : (qs'.length + min 6 qs'.length) * (m + 1) ≤ (qs'.length + 6) * (m + 1) := Nat.mul_le_mul_right _ (by omega)
        omega
      · intro q hq2
        rcases List.mem_append.mp hq2 with z | z
        · exact hq' q z
        · exact hq' q (List.mem_of_mem_take z)
    · exact ⟨qs', v, b3, hq', hv, rfl⟩
  clear b3 b4 hq' hv
  rintro Γ' S' ⟨qs', v, b3, hq', hv, rfl⟩
  clear b1 b2 hq hql
  walk_at "am"
  refine seq_cut (call_mono _ _) (fun Γ S2 => S' = S2 ∧ ∃ o, Γ = [some (.scr ns), some v, some (.int way), o, some (.int (tb qs').1), some (.int (tb qs').2), none, none]) ?_ ?_
  · walk_at "am"
    refine hv.seq fun G hG => ⟨hG _ fun _ _ z => z, ?_⟩
    refine for_ix (call_mono _ _) (fun i Γ S2 => S' = S2 ∧ ∃ o, Γ = [some (.scr ns), some v, some (.int way), o, some (.int (tb (qs'.take i)).1), some (.int (tb (qs'.take i)).2), none, none]) ?_ ?_ ?_
    · exact ⟨rfl, none, rfl⟩
    · rintro i x Γ S2 hx ⟨rfl, o, rfl⟩
      rw [List.getElem?_map] at hx
      obtain ⟨q, h1, rfl⟩ := Option.map_eq_some_iff.mp hx
      refine ⟨_, rfl, ?_⟩
      have hi : i < qs'.length := lt_of_get h1
      obtain ⟨_, _, h3, h4⟩ := tb_ok (m := m) (qs'.take i) fun x hx => hq' x (List.mem_of_mem_take hx)
      rw [List.length_take, Nat.min_eq_left (by omega)] at h3 h4
      have hi2 : i * (m + 1) ≤ qs'.length * (m + 1) := Nat.mul_le_mul_right _ (by omega)
      have hqq := hq' q (List.mem_of_getElem? h1)
      rw [take_snoc h1, tb_snoc]
      unfold Qv
      walk_at "am"
      exact ⟨h3.cmul hqq.2 (by omega), hqq.1.cmul h4 (by omega), h4.cmul hqq.2 (by omega), hG _ fun _ _ z => z, _, rfl⟩
    · rintro Γ S2 ⟨rfl, o, rfl⟩
      rw [List.length_map, List.take_length]
      exact ⟨rfl, o, rfl⟩
  rintro Γ' S2 ⟨rfl, o, rfl⟩
  obtain ⟨t1, t2, t3, t4⟩ := tb_ok (m := m) qs' hq'
  walk_at "am"
  refine hv.list ?_
  walk_at "am"
  refine total_ok rfl rfl rfl rfl 5 qs' hq' (by omega) LV.here ?_
  walk_at "am"
  obtain ⟨d1, d2⟩ := datsQ qs'
  refine ne_by (LV.here.dv (dats_iff.mpr fun x hx => by obtain ⟨q, _, rfl⟩ := List.mem_map.mp hx; rfl)) ((hv.more _).dv (dats_iff.mpr fun x hx => by obtain ⟨q, _, rfl⟩ := List.mem_map.mp hx; rfl)) d1 (by omega) ?_
  walk_at "am"
  refine (hv.more _).len ?_
  walk_at "am"
  refine comes_ok (d := f_l_comes_to) rfl rfl rfl rfl (e1 := f_l_whole) rfl rfl rfl rfl (e2 := f_l_divisor) rfl rfl rfl rfl 7 _ _ _ (sumQ_B hq') t3 t4 (by omega) ?_
  rw [cross_dv t1 t2]
  exact fin_keep rfl
end LawProof
/-! the head, printed by gen.py -/
namespace Hd
open PySem PySem.Spec PyProof.Rows L2 AM
def top (i : Nat) : Stmt := PySem.Challenge.pw_stylehouse_k05_totals.main.body.getD i (.Pass ⟨0, 0, 0, 0⟩)
def d_f_divisor : He.DefD := ⟨("divisor", none), "divisor", "divisor", defArgs (top 4), defBody (top 4), defScope (top 4), [], []⟩
def d_f_fraction : He.DefD := ⟨("fraction", none), "fraction", "fraction", defArgs (top 5), defBody (top 5), defScope (top 5), [], []⟩
def d_f_plus : He.DefD := ⟨("plus", none), "plus", "plus", defArgs (top 6), defBody (top 6), defScope (top 6), [], []⟩
def d_f_total : He.DefD := ⟨("total", none), "total", "total", defArgs (top 7), defBody (top 7), defScope (top 7), [], []⟩
def d_f_l_cell_at : He.DefD := ⟨("_law_cell_at", none), "_law_cell_at", "_law_cell_at", defArgs (top 9), defBody (top 9), defScope (top 9), [], []⟩
def d_f_l_whole : He.DefD := ⟨("_law_whole", none), "_law_whole", "_law_whole", defArgs (top 10), defBody (top 10), defScope (top 10), [], []⟩
def d_f_l_signed : He.DefD := ⟨("_law_signed", none), "_law_signed", "_law_signed", defArgs (top 11), defBody (top 11), defScope (top 11), [], []⟩
def d_f_l_divisor : He.DefD := ⟨("_law_divisor", none), "_law_divisor", "_law_divisor", defArgs (top 12), defBody (top 12), defScope (top 12), [], []⟩
def d_f_l_lowest : He.DefD := ⟨("_law_lowest", none), "_law_lowest", "_law_lowest", defArgs (top 13), defBody (top 13), defScope (top 13), [], []⟩
def d_f_l_comes_to : He.DefD := ⟨("_law_comes_to", none), "_law_comes_to", "_law_comes_to", defArgs (top 14), defBody (top 14), defScope (top 14), [], []⟩
def d_f_l_large : He.DefD := ⟨("_law_large", none), "_law_large", "_law_large", defArgs (top 15), defBody (top 15), defScope (top 15), [], []⟩
def d_f_l_many : He.DefD := ⟨("_law_many", none), "_law_many", "_law_many", defArgs (top 16), defBody (top 16), defScope (top 16), [], []⟩
def d_f_law : He.DefD := ⟨("law", none), "law", "law", defArgs (top 17), defBody (top 17), defScope (top 17), [], []⟩
def fn : List He.DefD := [d_f_divisor, d_f_fraction, d_f_plus, d_f_total, d_f_l_cell_at, d_f_l_whole, d_f_l_signed, d_f_l_divisor, d_f_l_lowest, d_f_l_comes_to, d_f_l_large, d_f_l_many, d_f_law]
def fa : List He.Fa := [.glo "divisor", .glo "fraction", .glo "plus", .glo "total", .glo "_law_cell_at", .glo "_law_whole", .glo "_law_signed", .glo "_law_divisor", .glo "_law_lowest", .glo "_law_comes_to", .glo "_law_large", .glo "_law_many", .glo "law", .free "len", .free "abs", .free "isinstance", .free "int", .free "bool", .free "str", .free "tuple", .free "list", .free "dict", .free "range", .free "max", .free "min", .free "sum", .free "sorted", .free "reversed", .free "enumerate", .free "zip", .free "all", .free "any", .free "ord", .glo "HouseError", .glo "NoFraction", .exc "HouseError", .exc "NoFraction"]
abbrev fs : List Str := ["divisor", "fraction", "plus", "total", "_law_cell_at", "_law_whole", "_law_signed", "_law_divisor", "_law_lowest", "_law_comes_to", "_law_large", "_law_many", "law"]
abbrev xs : List Str := ["HouseError", "NoFraction"]
abbrev R : PySem.W.OpenRow := PySem.W.OpenLaw.row PySem.Challenge.rw_stylehouse_k05_totals
abbrev hk : PySem.W.Hook := He.hookD 6 fa fn
def ob (s : PySem.W.SharedT) : He.AlD := He.obsDG 6 fa fn (HandSHeadRun.getT s)
theorem ob_eq (s : PySem.W.SharedT) : ob s = hk.obs s.abs := He.obsDG_eq (HandSHeadRun.getT_eq s)
def loose : List Str := (["HouseError", "NoFraction", "divisor", "fraction", "plus", "total", "_law_cell_at", "_law_whole", "_law_signed", "_law_divisor", "_law_lowest", "_law_comes_to", "_law_large", "_law_many"] : List Str)
theorem run (w : World) : HandSHeadRun.RunEq R (PySem.W.view R.prog [17]) hk ob 4000 loose w := by
  intro os
  kernel_rfl
theorem c_f_divisor : ckF xs fs f_divisor (top 4) = true := by decide +kernel
theorem c_f_fraction : ckF xs fs f_fraction (top 5) = true := by decide +kernel
theorem c_f_plus : ckF xs fs f_plus (top 6) = true := by decide +kernel
theorem c_f_total : ckF xs fs f_total (top 7) = true := by decide +kernel
theorem c_f_l_cell_at : ckF xs fs f_l_cell_at (top 9) = true := by decide +kernel
theorem c_f_l_whole : ckF xs fs f_l_whole (top 10) = true := by decide +kernel
theorem c_f_l_signed : ckF xs fs f_l_signed (top 11) = true := by decide +kernel
theorem c_f_l_divisor : ckF xs fs f_l_divisor (top 12) = true := by decide +kernel
theorem c_f_l_lowest : ckF xs fs f_l_lowest (top 13) = true := by decide +kernel
theorem c_f_l_comes_to : ckF xs fs f_l_comes_to (top 14) = true := by decide +kernel
theorem c_f_l_large : ckF xs fs f_l_large (top 15) = true := by decide +kernel
theorem c_f_l_many : ckF xs fs f_l_many (top 16) = true := by decide +kernel
theorem c_f_law : ckF xs fs f_law (top 17) = true := by decide +kernel
theorem facts {K : PySem.W.Frag} {h : Heap} {mg : Str → Option Value} (X : K.In h) (G : h.Ns mainGlobals mg) (c : He.SaysD fa fn K) : Facts K mg (He.ga K) T fs xs := by
  refine ⟨fcons ?f0 (fcons ?f1 (fcons ?f2 (fcons ?f3 (fcons ?f4 (fcons ?f5 (fcons ?f6 (fcons ?f7 (fcons ?f8 (fcons ?f9 (fcons ?f10 (fcons ?f11 (fcons ?f12 (fnil))))))))))))), ?_, fcons ?x0 (fcons ?x1 (fnil))⟩
  case f0 =>
    obtain ⟨fd, F⟩ := c.def_ 0 (d := d_f_divisor) rfl
    exact ⟨f_divisor, _, fd, top 4, rfl, He.glo_ok X G (c.fact 0 (f := .glo "divisor") rfl), F, FunD.bindsN F (fun _ _ _ _ _ _ us hl => match us, hl with | [_, _], _ => rfl), c_f_divisor⟩
  case f1 =>
    obtain ⟨fd, F⟩ := c.def_ 1 (d := d_f_fraction) rfl
    exact ⟨f_fraction, _, fd, top 5, rfl, He.glo_ok X G (c.fact 1 (f := .glo "fraction") rfl), F, FunD.bindsN F (fun _ _ _ _ _ _ us hl => match us, hl with | [_, _], _ => rfl), c_f_fraction⟩
  case f2 =>
    obtain ⟨fd, F⟩ := c.def_ 2 (d := d_f_plus) rfl
    exact ⟨f_plus, _, fd, top 6, rfl, He.glo_ok X G (c.fact 2 (f := .glo "plus") rfl), F, FunD.bindsN F (fun _ _ _ _ _ _ us hl => match us, hl with | [_, _], _ => rfl), c_f_plus⟩
  case f3 =>
    obtain ⟨fd, F⟩ := c.def_ 3 (d := d_f_total) rfl
    exact ⟨f_total, _, fd, top 7, rfl, He.glo_ok X G (c.fact 3 (f := .glo "total") rfl), F, FunD.bindsN F (fun _ _ _ _ _ _ us hl => match us, hl with | [_], _ => rfl), c_f_total⟩
  case f4 =>
    obtain ⟨fd, F⟩ := c.def_ 4 (d := d_f_l_cell_at) rfl
    exact ⟨f_l_cell_at, _, fd, top 9, rfl, He.glo_ok X G (c.fact 4 (f := .glo "_law_cell_at") rfl), F, FunD.bindsN F (fun _ _ _ _ _ _ us hl => match us, hl with | [_, _], _ => rfl), c_f_l_cell_at⟩
  case f5 =>
    obtain ⟨fd, F⟩ := c.def_ 5 (d := d_f_l_whole) rfl
    exact ⟨f_l_whole, _, fd, top 10, rfl, He.glo_ok X G (c.fact 5 (f := .glo "_law_whole") rfl), F, FunD.bindsN F (fun _ _ _ _ _ _ us hl => match us, hl with | [_], _ => rfl), c_f_l_whole⟩
  case f6 =>
    obtain ⟨fd, F⟩ := c.def_ 6 (d := d_f_l_signed) rfl
    exact ⟨f_l_signed, _, fd, top 11, rfl, He.glo_ok X G (c.fact 6 (f := .glo "_law_signed") rfl), F, FunD.bindsN F (fun _ _ _ _ _ _ us hl => match us, hl with | [_, _], _ => rfl), c_f_l_signed⟩
  case f7 =>
    obtain ⟨fd, F⟩ := c.def_ 7 (d := d_f_l_divisor) rfl
    exact ⟨f_l_divisor, _, fd, top 12, rfl, He.glo_ok X G (c.fact 7 (f := .glo "_law_divisor") rfl), F, FunD.bindsN F (fun _ _ _ _ _ _ us hl => match us, hl with | [_, _], _ => rfl), c_f_l_divisor⟩
  case f8 =>
    obtain ⟨fd, F⟩ := c.def_ 8 (d := d_f_l_lowest) rfl
    exact ⟨f_l_lowest, _, fd, top 13, rfl, He.glo_ok X G (c.fact 8 (f := .glo "_law_lowest") rfl), F, FunD.bindsN F (fun _ _ _ _ _ _ us hl => match us, hl with | [_, _], _ => rfl), c_f_l_lowest⟩
  case f9 =>
    obtain ⟨fd, F⟩ := c.def_ 9 (d := d_f_l_comes_to) rfl
    exact ⟨f_l_comes_to, _, fd, top 14, rfl, He.glo_ok X G (c.fact 9 (f := .glo "_law_comes_to") rfl), F, FunD.bindsN F (fun _ _ _ _ _ _ us hl => match us, hl with | [_, _, _], _ => rfl), c_f_l_comes_to⟩
  case f10 =>
    obtain ⟨fd, F⟩ := c.def_ 10 (d := d_f_l_large) rfl
    exact ⟨f_l_large, _, fd, top 15, rfl, He.glo_ok X G (c.fact 10 (f := .glo "_law_large") rfl), F, FunD.bindsN F (fun _ _ _ _ _ _ us hl => match us, hl with | [_], _ => rfl), c_f_l_large⟩
  case f11 =>
    obtain ⟨fd, F⟩ := c.def_ 11 (d := d_f_l_many) rfl
    exact ⟨f_l_many, _, fd, top 16, rfl, He.glo_ok X G (c.fact 11 (f := .glo "_law_many") rfl), F, FunD.bindsN F (fun _ _ _ _ _ _ us hl => match us, hl with | [_], _ => rfl), c_f_l_many⟩
  case f12 =>
    obtain ⟨fd, F⟩ := c.def_ 12 (d := d_f_law) rfl
    exact ⟨f_law, _, fd, top 17, rfl, He.glo_ok X G (c.fact 12 (f := .glo "law") rfl), F, FunD.bindsN F (fun _ _ _ _ _ _ us hl => match us, hl with | [_], _ => rfl), c_f_law⟩
  case x0 =>
    obtain ⟨e1, e2, e3, e4⟩ := He.exc_ok (c.fact 35 (f := .exc "HouseError") rfl)
    exact ⟨He.glo_ok X G (c.fact 33 (f := .glo "HouseError") rfl), e1, e2, e3, e4⟩
  case x1 =>
    obtain ⟨e1, e2, e3, e4⟩ := He.exc_ok (c.fact 36 (f := .exc "NoFraction") rfl)
    exact ⟨He.glo_ok X G (c.fact 34 (f := .glo "NoFraction") rfl), e1, e2, e3, e4⟩
  exact fcons (He.free_ok X G (c.fact 13 (f := .free "len") rfl)) (fcons (He.free_ok X G (c.fact 14 (f := .free "abs") rfl)) (fcons (He.free_ok X G (c.fact 15 (f := .free "isinstance") rfl)) (fcons (He.free_ok X G (c.fact 16 (f := .free "int") rfl)) (fcons (He.free_ok X G (c.fact 17 (f := .free "bool") rfl)) (fcons (He.free_ok X G (c.fact 18 (f := .free "str") rfl)) (fcons (He.free_ok X G (c.fact 19 (f := .free "tuple") rfl)) (fcons (He.free_ok X G (c.fact 20 (f := .free "list") rfl)) (fcons (He.free_ok X G (c.fact 21 (f := .free "dict") rfl)) (fcons (He.free_ok X G (c.fact 22 (f := .free "range") rfl)) (fcons (He.free_ok X G (c.fact 23 (f := .free "max") rfl)) (fcons (He.free_ok X G (c.fact 24 (f := .free "min") rfl)) (fcons (He.free_ok X G (c.fact 25 (f := .free "sum") rfl)) (fcons (He.free_ok X G (c.fact 26 (f := .free "sorted") rfl)) (fcons (He.free_ok X G (c.fact 27 (f := .free "reversed") rfl)) (fcons (He.free_ok X G (c.fact 28 (f := .free "enumerate") rfl)) (fcons (He.free_ok X G (c.fact 29 (f := .free "zip") rfl)) (fcons (He.free_ok X G (c.fact 30 (f := .free "all") rfl)) (fcons (He.free_ok X G (c.fact 31 (f := .free "any") rfl)) (fcons (He.free_ok X G (c.fact 32 (f := .free "ord") rfl)) (fnil))))))))))))))))))))
end Hd
open PySem PySem.W PySem.Calls PyProof.Rows
set_option maxHeartbeats 0 in
theorem PySem.Challenge.cw_stylehouse_k05_totals_holds : PySem.Challenge.rw_stylehouse_k05_totals.Holds := by
  w_on; o_law
  refine HandSHeadRun.head_any (r := OpenLaw.row PySem.Challenge.rw_stylehouse_k05_totals) (q := view (OpenLaw.row PySem.Challenge.rw_stylehouse_k05_totals).prog [17]) (H := Hd.hk) (ob := Hd.ob) (M := 4000) (loose := Hd.loose) (d := HandSHeadRun.topDef (OpenLaw.row PySem.Challenge.rw_stylehouse_k05_totals).prog 17) (kwd := []) Hd.ob_eq
    (by kernel_rfl) (fun s => by kernel_rfl) Hd.run (by kernel_rfl) (by kernel_rfl) (by kernel_rfl) (by rfl) (by first | assumption | decide +kernel) (by decide +kernel) ⟨rfl, rfl, rfl, rfl, rfl, by decide +kernel⟩ ?hw ?hc
  case hw => w_witness2
  case hc =>
    refine AM.walk_ofEB (l := PySem.Challenge.rw_stylehouse_k05_totals) (n := 63) (k := 10) (x := "_law_script") (CX := fun w => L2.CX (PySem.Challenge.rw_stylehouse_k05_totals).prog w) rfl (by decide) (by kernel_rfl) ⟨rfl, by decide, by decide⟩ ?F ?X
    case X =>
      intro w H s e s' h
      obtain ⟨_, _, _, _, _, _, _, _, _, _, _, _, z⟩ := h
      exact z.elim
    intro w mg fa h Y G hmg0
    obtain ⟨K, KX, c⟩ := Y
    have hmg : mg ("law" : PySem.Str) = some (.ref fa) := by
      have e : (HandSHeadRun.topDef (OpenLaw.row PySem.Challenge.rw_stylehouse_k05_totals).prog 17).name = ("law" : PySem.Str) := by kernel_rfl
      rw [← e]
      exact hmg0
    have Fx := Hd.facts KX G c
    obtain ⟨fd, F⟩ := c.def_ 12 (d := Hd.d_f_law) rfl
    have e := hmg.symm.trans (He.glo_ok KX G (c.fact 12 (f := .glo "law") rfl))
    cases e
    have b := L2.FunD.bindsA (ps := ["_law_script"]) F fun _ _ _ _ _ _ us hl => match us, hl with | [_], _ => rfl
    refine ⟨K, fd, AM.spI K (He.ga K) (AM.call Hd.T 10) "law", KX, fun s v => b s [v] rfl, fun H a ns hl hb _ hS => AM.law_ok Fx (by decide +kernel) hS (LawProof.law_holds ns hl hb), fun base KB GB => ?_⟩
    exact AM.fn_ok (P := (PySem.Challenge.rw_stylehouse_k05_totals).prog) (w := w) (base := base) Fx 10 "law" f_law _ _ (Hd.top 17) rfl (He.glo_ok KX G (c.fact 12 (f := .glo "law") rfl)) F Hd.c_f_law
end
#print axioms PySem.Challenge.cw_stylehouse_k05_totals_holds
