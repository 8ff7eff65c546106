import PyProof.Rows.All
import Wide.All
import OpenK.AllK
import Wide.FinOn
import HandS.ForMost
import HandS.ForExc
import KE.SortData
import HandS.Text
import KE.KeyNested
import KE.KDictKeyed
import HandS.Flow
import HandS.Deep
import HandS.TupAny
import HandS.IsInst
import HandS.Zip
import HandS.TupMul
import HandS.Style
import KE.DataCmp
import KE.GoesMore
import HandS.Conv
import KE.KDictPairs
import HandS.ExcIs
import HandS.HotCalls
import HandS.TryOnly
import HandS.ExcBuiltin
import HandS.WordsExc
import KE.DataFind
import KE.SortCalls
import KE.KSortTup
import KE.LtData
import KE.LtSeq
import HandS.TupSets
import PySem.Challenge.RW_treefinds_k14_by_finds
set_option Elab.async false
set_option linter.all false
set_option maxRecDepth 100000
set_option autoImplicit false
/-! ### a small evaluator over plain data -/
namespace Pu
open PySem L2

abbrev D := PyData
inductive Rs (α : Type) where
  | ok (a : α)
  | exc (c : Str)
  | bad
def Rs.bind {α β : Type} : Rs α → (α → Rs β) → Rs β
  | .ok a, f => f a
  | .exc c, _ => .exc c
  | .bad, _ => .bad
@[simp] theorem Rs.bind_ok {α β : Type} (a : α) (f : α → Rs β) : Rs.bind (.ok a) f = f a := rfl
@[simp] theorem Rs.bind_exc {α β : Type} (c : Str) (f : α → Rs β) : Rs.bind (.exc c) f = .exc c := rfl
@[simp] theorem Rs.bind_bad {α β : Type} (f : α → Rs β) : Rs.bind (.bad) f = .bad := rfl
def Rs.ofO {α : Type} : Option α → Rs α
  | some a => .ok a
  | none => .bad
@[simp] theorem Rs.ofO_some {α : Type} (a : α) : Rs.ofO (some a) = .ok a := rfl
@[simp] theorem Rs.ofO_none {α : Type} : Rs.ofO (none : Option α) = .bad := rfl
/-- nothing is raised here -/
def Rs.calm {α : Type} : Rs α → Rs α
  | .ok a => .ok a
  | _ => .bad
@[simp] theorem Rs.calm_ok {α : Type} (a : α) : Rs.calm (.ok a) = .ok a := rfl
def Rs.guard {α : Type} (b : Bool) (r : Rs α) : Rs α := if b = true then r else .bad
@[simp] theorem Rs.guard_true {α : Type} (r : Rs α) : Rs.guard true r = r := rfl
@[simp] theorem Rs.guard_false {α : Type} (r : Rs α) : Rs.guard false r = .bad := rfl

/-- the longest list, tuple, text -/
abbrev line : Nat := 16777216

/-- a name's state: nothing, a value, a list of its own -/
inductive Sl where
  | no
  | val (d : D)
  | own (ds : List D)
  | scr (ns : List Int)
  | dct (kvs : List (D × D))
abbrev En := List Sl

def truth : D → Rs Bool
  | .none => .ok false
  | .bool b => .ok b
  | .int i => .ok (i != 0)
  | .list xs => .ok (!xs.isEmpty)
  | .tuple xs => .ok (!xs.isEmpty)
  | _ => .bad
def scalar : D → Bool
  | .none => true
  | .bool _ => true
  | .int _ => true
  | .str _ => true
  | _ => false

inductive Bop where
  | add | sub | mul | mod
  deriving DecidableEq
inductive Cop where
  | eq | ne | lt | le | gt | ge | isin | notin
  deriving DecidableEq

def small64 (i : Int) : Bool := decide (-(2 ^ 64) < i) && decide (i < 2 ^ 64)
def addD : D → D → Rs D
  | .int i, .int j => .ok (.int (i + j))
  | .str x, .str y => .guard (decide (x.length + y.length ≤ line)) (.ok (.str (x ++ y)))
  | .tuple xs, .tuple ys => .guard (decide (xs.length + ys.length ≤ line)) (.ok (.tuple (xs ++ ys)))
  | .list xs, .list ys => .guard (decide (xs.length + ys.length ≤ line)) (.ok (.list (xs ++ ys)))
  | _, _ => .bad
def subD : D → D → Rs D
  | .int i, .int j => .ok (.int (i - j))
  | _, _ => .bad
def repL {α : Type} (k : Int) (xs : List α) : List α := (List.replicate k.toNat xs).flatten
def mulD : D → D → Rs D
  | .int i, .int j => .guard (small64 i || small64 j) (.ok (.int (i * j)))
  | .str x, .int k => .guard (decide (k = 2) && decide (x.length * 2 ≤ line)) (.ok (.str (x ++ x)))
  | .tuple xs, .int k => .guard (!xs.isEmpty && decide (1 ≤ k) && decide (k ≤ 1000) && decide (xs.length ≤ 1000)) (.ok (.tuple (repL k xs)))
  | .list xs, .int k => .guard (decide (-(2 ^ 63) ≤ k) && decide (k < 2 ^ 63) && decide (xs.length * k.toNat ≤ line)) (.ok (.list (repL k xs)))
  | _, _ => .bad
def modD : D → D → Rs D
  | .int i, .int j => .guard (decide (0 < j)) (.ok (.int (i % j)))
  | _, _ => .bad
def binD : Bop → D → D → Rs D
  | .add => addD
  | .sub => subD
  | .mul => mulD
  | .mod => modD
def eqD (a b : D) : Rs Bool := .guard (decide (min a.depth b.depth ≤ 64)) (.ok (PyData.eqv a b))
def inD (a : D) : D → Rs Bool
  | .list ds => .guard (decide (min (PyData.depthAll ds) a.depth ≤ 64)) (.ok (ds.any fun z => PyData.eqv z a))
  | .tuple ds => .guard (decide (min (PyData.depthAll ds) a.depth ≤ 64)) (.ok (ds.any fun z => PyData.eqv z a))
  | .str z => match a with
    | .str x => match x.cps.toList with
      | [c] => .ok (decide (c ∈ z.cps.toList))
      | _ => .bad
    | _ => .bad
  | _ => .bad
def cmpI (p : Int → Int → Bool) : D → D → Rs Bool
  | .int i, .int j => .ok (p i j)
  | _, _ => .bad
/-- more than: whole numbers, alike tuples -/
def gtD : D → D → Rs Bool
  | .tuple xs, .tuple ys => .guard (PySem.W.alike (.tuple xs) (.tuple ys) && decide (min (PyData.depth (.tuple xs)) (PyData.depth (.tuple ys)) ≤ 64)) (.ok (PySem.W.dataLt (.tuple ys) (.tuple xs)))
  | a, b => cmpI (fun i j => decide (j < i)) a b
def cmpD : Cop → D → D → Rs Bool
  | .eq, a, b => eqD a b
  | .ne, a, b => (eqD a b).bind fun k => .ok (!k)
  | .lt, a, b => cmpI (fun i j => decide (i < j)) a b
  | .le, a, b => cmpI (fun i j => decide (i ≤ j)) a b
  | .gt, a, b => gtD a b
  | .ge, a, b => cmpI (fun i j => decide (j ≤ i)) a b
  | .isin, a, b => inD a b
  | .notin, a, b => (inD a b).bind fun k => .ok (!k)
/-- is None, is True, is False -/
def isD (a : D) : D → Rs Bool
  | .none => .ok (match a with | .none => true | _ => false)
  | .bool k => match a with | .bool b => .ok (b == k) | _ => .bad
  | _ => .bad

/-- the built-in classes that isinstance is asked for -/
inductive Ty where
  | tuple | str | int | bool
  deriving DecidableEq
def isTy : D → Ty → Bool
  | .tuple _, .tuple => true
  | .str _, .str => true
  | .int _, .int => true
  | .bool _, .int => true
  | .bool _, .bool => true
  | _, _ => false

def ixD : D → D → Rs D
  | .list xs, .int i => .ofO (atI xs i)
  | .tuple xs, .int i => .ofO (atI xs i)
  | .str x, .int i => .guard (decide (x.length ≤ line)) (.ofO ((atI x.cps.toList i).map fun c => .str ⟨#[c]⟩))
  | _, _ => .bad
def partD : D → Rs (Option Int)
  | .int i => .ok (some i)
  | _ => .bad
def cutL {α : Type} (xs : List α) (lo hi : Option Int) : List α := (xs.drop (HT.sIx xs.length 0 lo)).take (HT.sIx xs.length xs.length hi - HT.sIx xs.length 0 lo)
def slD (a : D) (l h : Option Int) : Rs D := match a with
  | .list xs => .ok (.list (cutL xs l h))
  | .tuple xs => .ok (.tuple (cutL xs l h))
  | .str x => .guard (decide (x.length ≤ line)) (.ok (.str ⟨(cutL x.cps.toList l h).toArray⟩))
  | _ => .bad
def revD : D → Rs D
  | .list xs => .ok (.list xs.reverse)
  | .tuple xs => .ok (.tuple xs.reverse)
  | _ => .bad

def boolsOf : List D → Option (List Bool)
  | [] => some []
  | .bool b :: r => (boolsOf r).map (b :: ·)
  | _ => none
def intsOf : List D → Option (List Int)
  | [] => some []
  | .int i :: r => (intsOf r).map (i :: ·)
  | _ => none
def inRange (i : Int) : Bool := decide (-(2 ^ 62) ≤ i) && decide (i < 2 ^ 62)
/-! keys of dicts: tuples of whole numbers, truths, texts, None, nested -/
mutual
def nkOf : D → Option NestedKey
  | .none => some .none
  | .bool b => some (.num (if b then 1 else 0))
  | .int i => some (.num i)
  | .str x => some (.text x)
  | .tuple xs => (nksOf xs).map .tup
  | _ => none
def nksOf : List D → Option (List NestedKey)
  | [] => some []
  | x :: xs => (nkOf x).bind fun k => (nksOf xs).map (k :: ·)
end
def isTupD : D → Bool
  | .tuple _ => true
  | _ => false
/-- a key: a tuple, eight deep at most -/
def keyD (d : D) : Option NestedKey := if isTupD d then (nkOf d).bind fun k => if k.depth ≤ 8 then some k else none else none
mutual
/-- whole numbers alone -/
def numK : NestedKey → Bool
  | .none => false
  | .num _ => true
  | .text _ => false
  | .tup ks => numKs ks
def numKs : List NestedKey → Bool
  | [] => true
  | k :: ks => numK k && numKs ks
end
def krows : List D → Option (List NestedKey)
  | [] => some []
  | x :: r => (keyD x).bind fun k => if numK k then (krows r).map (k :: ·) else none
def pairsD : List D → Option (List (D × D))
  | [] => some []
  | .tuple [k, v] :: r => (pairsD r).map ((k, v) :: ·)
  | _ => none
def keysD : List (D × D) → Option (List NestedKey)
  | [] => some []
  | p :: r => (keyD p.1).bind fun k => (keysD r).map (k :: ·)
/-- dict(pairs): no key twice -/
def dctD : D → Rs (List (D × D))
  | .list xs => (Rs.ofO (pairsD xs)).bind fun kvs => (Rs.ofO (keysD kvs)).bind fun ks => .guard (decide ks.Nodup && decide (xs.length ≤ line)) (.ok kvs)
  | _ => .bad
def dlook : List (D × D) → NestedKey → Option D
  | [], _ => none
  | p :: r, k => if keyD p.1 = some k then some p.2 else dlook r k
def dixD (kvs : List (D × D)) (d : D) : Rs D := (Rs.ofO (keyD d)).bind fun k => .ofO (dlook kvs k)
inductive Bi where
  | len | all | any | sum | tuple | list | min2 | intb | sorted | sset | lset | trange
  deriving DecidableEq
/-- sorted: data that may be compared -/
def sortD (ds : List D) : Rs (List D) := .guard (ds.all (fun a => ds.all fun b => PySem.W.alike a b) && ds.all (fun a => decide (a.depth ≤ 64)) && ds.all (fun a => match a with | .none => false | _ => true))
  (.ok (ds.mergeSort (PySem.W.dataLe false id)))
/-- rows of whole numbers -/
def encR (ns : List Int) : D := .tuple (ns.map .int)
def rowsI : List D → Option (List (List Int))
  | [] => some []
  | .tuple xs :: r => (intsOf xs).bind fun ns => (rowsI r).map (ns :: ·)
  | _ :: _ => none
def biD : Bi → List D → Rs D
  | .len, [.list xs] => .ok (.int xs.length)
  | .len, [.tuple xs] => .ok (.int xs.length)
  | .len, [.str x] => .guard (decide (x.length ≤ line)) (.ok (.int x.length))
  | .all, [.list xs] => (Rs.ofO (boolsOf xs)).bind fun bs => .ok (.bool (bs.all id))
  | .any, [.list xs] => (Rs.ofO (boolsOf xs)).bind fun bs => .ok (.bool (bs.any id))
  | .sum, [.list xs] => (Rs.ofO (intsOf xs)).bind fun ns => .ok (.int ns.sum)
  | .tuple, [.list xs] => .ok (.tuple xs)
  | .tuple, [.tuple xs] => .ok (.tuple xs)
  | .list, [.list xs] => .ok (.list xs)
  | .list, [.tuple xs] => .ok (.list xs)
  | .min2, [.int i, .int j] => .ok (.int (if j < i then j else i))
  | .intb, [.bool b] => .ok (.int (if b then 1 else 0))
  | .sorted, [.list xs] => (sortD xs).bind fun ys => .ok (.list ys)
  | .sorted, [.tuple xs] => (sortD xs).bind fun ys => .ok (.list ys)
  | .sset, [.list xs] => (Rs.ofO (rowsI xs)).bind fun rs => .guard (decide (rs.eraseDups.length ≤ 62)) (.ok (.list ((rs.eraseDups.mergeSort (PySem.W.dataLe false encR)).map encR)))
  | .lset, [.list xs] => (Rs.ofO (krows xs)).bind fun ks => .guard (decide (ks.eraseDups.length ≤ 62)) (.ok (.int ks.eraseDups.length))
  | .trange, [.int n] => .guard (inRange n && decide (n.toNat ≤ line)) (.ok (.tuple ((List.range n.toNat).map fun (i : Nat) => .int (i : Int))))
  | _, _ => .bad
inductive Me where
  | count | index | upper | join
  deriving DecidableEq
def joinD (z : Str) : List D → Option Str
  | [] => some ⟨#[]⟩
  | [.str x] => some x
  | .str x :: r => (joinD z r).map fun y => x ++ z ++ y
  | _ => none
def meD : Me → D → List D → Rs D
  | .count, .list xs, [d] => .guard (decide (min (PyData.depthAll xs) d.depth ≤ 64)) (.ok (.int (xs.filter fun z => PyData.eqv z d).length))
  | .upper, .str x, [] => .guard (decide (x.length ≤ 1000) && PyData.strOk (Txt.upper x)) (.ok (.str (Txt.upper x)))
  | .index, .list xs, [d] => .guard (decide (min (PyData.depthAll xs) d.depth ≤ 64)) ((Rs.ofO (xs.findIdx? fun z => PyData.eqv z d)).bind fun i => .ok (.int i))
  | _, _, _ => .bad

/-- what is walked -/
inductive Ik where
  | plain | range1 | range2 | enum | zip
  deriving DecidableEq
def items : Ik → List D → Rs (List D)
  | .plain, [.list xs] => .ok xs
  | .plain, [.tuple xs] => .ok xs
  | .plain, [.str x] => .guard (decide (x.length ≤ line)) (.ok (x.cps.toList.map fun c => .str ⟨#[c]⟩))
  | .range1, [.int n] => .guard (inRange n && decide (n.toNat ≤ line)) (.ok ((List.range n.toNat).map fun (i : Nat) => .int (i : Int)))
  | .range2, [.int a, .int b] => .guard (inRange a && inRange b && decide ((b - a).toNat ≤ line)) (.ok ((List.range (b - a).toNat).map fun (i : Nat) => .int (a + (i : Int))))
  | .enum, [.list xs] => .ok (xs.mapIdx fun i x => .tuple [.int i, x])
  | .enum, [.tuple xs] => .ok (xs.mapIdx fun i x => .tuple [.int i, x])
  | .zip, [.list xs, .list ys] => .ok (List.zipWith (fun x y => .tuple [x, y]) xs ys)
  | .zip, [.tuple xs, .tuple ys] => .ok (List.zipWith (fun x y => .tuple [x, y]) xs ys)
  | _, _ => .bad

inductive Tg where
  | name (i : Nat)
  | tup (ts : List Tg)
inductive E where
  | var (i : Nat)
  | peek (e : E)
  | cst (d : D)
  | glob (x : Str) (d : D)
  | tup (es : List E)
  | lst (es : List E)
  | bin (op : Bop) (a b : E)
  | neg (i : Int)
  | cmp (op : Cop) (a b : E)
  | isc (neg : Bool) (a : E) (d : D)
  | chn (op op' : Cop) (a b c : E)
  | and (es : List E)
  | or (es : List E)
  | not (a : E)
  | ite (c a b : E)
  | ix (a i : E)
  | sl (a : E) (lo hi : List E)
  | rev (a : E)
  | bi (f : Bi) (es : List E)
  | isi (a : E) (ts : List Ty)
  | meth (m : Me) (a : E) (es : List E)
  | call (f : Nat) (es : List E)
  | call0 (f : Nat)
  | callN (f : Nat) (es : List E)
  | cell (i : Nat) (e : E)
  | dget (a k : E)
  | dix (i : Nat) (k : E)
  | callD (f i : Nat) (es fs : List E)
  | comp (elt : E) (tg : Tg) (k : Ik) (src : List E) (test : List E) (own : List Nat)
inductive S where
  | set (i : Nat) (e : E)
  | own (i : Nat) (e : E)
  | unp (tg : Tg) (e : E)
  | par (i j : Nat) (oi oj : Bool) (a b : E)
  | app (i : Nat) (e : E)
  | ext (i : Nat) (e : E)
  | frz (i : Nat) (s : S)
  | loop (tg : Tg) (k : Ik) (src : List E) (body : List S) (kill : List Nat)
  | whl (n : Nat) (c : E) (body : List S) (kill : List Nat)
  | iff (c : E) (a b : List S)
  | ret (e : E)
  | expr (e : E)
  | rows (f i : Nat) (es : List E)
  | raise (c : Str)
  | dct (i : Nat) (e : E)
  | tryw (w : Bool) (body : List S)

def getS (ρ : En) (i : Nat) : Sl := ρ.getD i .no
def thaw : Sl → Sl
  | .own ds => .val (.list ds)
  | s => s
def killS (ρ : En) : List Nat → En
  | [] => ρ
  | i :: r => killS (ρ.set i .no) r
mutual
def bindT : Tg → D → En → Option En
  | .name i, d, ρ => some (ρ.set i (.val d))
  | .tup ts, .tuple xs, ρ => bindTs ts xs ρ
  | .tup _, _, _ => none
def bindTs : List Tg → List D → En → Option En
  | [], [], ρ => some ρ
  | t :: ts, x :: xs, ρ => (bindT t x ρ).bind fun ρ' => bindTs ts xs ρ'
  | _, _, _ => none
end
/-- the items made by a comprehension -/
def compL (f : D → Rs (Option D)) : List D → Rs (List D)
  | [] => .ok []
  | x :: xs => (f x).bind fun o => (compL f xs).bind fun ys => .ok (match o with | some y => y :: ys | none => ys)

def tupR : Rs D → Rs D
  | .ok (.tuple zs) => .ok (.tuple zs)
  | .ok (.list zs) => .ok (.list zs)
  | _ => .bad
mutual
def ev (C : Nat → List D → Rs D) : E → En → Rs D
  | .var i, ρ => match getS ρ i with | .val d => .ok d | _ => .bad
  | .peek e, ρ => (ev C e (ρ.map thaw)).bind fun d => .guard (scalar d) (.ok d)
  | .cst d, _ => .ok d
  | .glob _ d, _ => .ok d
  | .tup es, ρ => (evs C es ρ).bind fun ds => .guard (decide (ds.length ≤ line)) (.ok (.tuple ds))
  | .lst es, ρ => (evs C es ρ).bind fun ds => .guard (decide (ds.length ≤ line)) (.ok (.list ds))
  | .bin op a b, ρ => (ev C a ρ).bind fun x => (ev C b ρ).bind fun y => binD op x y
  | .neg i, _ => .ok (.int (-i))
  | .cmp op a b, ρ => (ev C a ρ).bind fun x => (ev C b ρ).bind fun y => (cmpD op x y).bind fun k => .ok (.bool k)
  | .isc n a d, ρ => (ev C a ρ).bind fun x => (isD x d).bind fun k => .ok (.bool (if n then !k else k))
  | .chn op op' a b c, ρ => (ev C a ρ).bind fun x => (ev C b ρ).bind fun y => (cmpD op x y).bind fun k =>
      if k then (ev C c ρ).bind fun z => (cmpD op' y z).bind fun k' => .ok (.bool k') else .ok (.bool false)
  | .and es, ρ => evAnd C es ρ
  | .or es, ρ => evOr C es ρ
  | .not a, ρ => (ev C a ρ).bind fun x => (truth x).bind fun k => .ok (.bool (!k))
  | .ite c a b, ρ => (ev C c ρ).bind fun x => (truth x).bind fun k => if k then ev C a ρ else ev C b ρ
  | .ix a i, ρ => (ev C a ρ).bind fun x => (ev C i ρ).bind fun y => ixD x y
  | .sl a lo hi, ρ => (ev C a ρ).bind fun x => (evP C lo ρ).bind fun l => (evP C hi ρ).bind fun h => slD x l h
  | .rev a, ρ => (ev C a ρ).bind revD
  | .bi f es, ρ => (evs C es ρ).bind (biD f)
  | .isi a ts, ρ => (ev C a ρ).bind fun x => .ok (.bool (ts.any (isTy x)))
  | .meth m a es, ρ => (ev C a ρ).bind fun x => (evs C es ρ).bind (meD m x)
  | .call f es, ρ => (evs C es ρ).bind (C f)
  | .call0 f, _ => (C f []).calm
  | .callN f es, ρ => (evs C es ρ).bind fun ds => tupR (C f (ds ++ [.list []]))
  | .cell i e, ρ => match getS ρ i with
    | .scr ns => (ev C e ρ).bind fun d => match d with
      | .int k => .guard (decide (0 ≤ k)) (.ok (.int (ns.getD k.toNat 0)))
      | _ => .bad
    | _ => .bad
  | .dget a k, ρ => (ev C a ρ).bind fun x => (dctD x).bind fun kvs => (ev C k ρ).bind fun y => dixD kvs y
  | .dix i k, ρ => match getS ρ i with
    | .dct kvs => (ev C k ρ).bind fun y => dixD kvs y
    | _ => .bad
  | .callD f i es fs, ρ => match getS ρ i with
    | .dct kvs => (evs C es ρ).bind fun ds => (evs C fs ρ).bind fun ds' => C f (ds ++ .dict kvs :: ds')
    | _ => .bad
  | .comp elt tg k src test own, ρ => (evs C src ρ).bind fun ds => (items k ds).bind fun xs =>
      (Rs.calm (compL (fun x => (Rs.ofO (bindT tg x (killS ρ own))).bind fun ρ' =>
        (evT C test ρ').bind fun k => if k then (ev C elt ρ').bind fun y => .ok (some y) else .ok none) xs)).bind fun ys => .ok (.list ys)
def evs (C : Nat → List D → Rs D) : List E → En → Rs (List D)
  | [], _ => .ok []
  | e :: es, ρ => (ev C e ρ).bind fun d => (evs C es ρ).bind fun ds => .ok (d :: ds)
def evP (C : Nat → List D → Rs D) : List E → En → Rs (Option Int)
  | [], _ => .ok none
  | e :: _, ρ => (ev C e ρ).bind partD
def evT (C : Nat → List D → Rs D) : List E → En → Rs Bool
  | [], _ => .ok true
  | e :: es, ρ => (ev C e ρ).bind fun d => (truth d).bind fun k => if k then evT C es ρ else .ok false
def evAnd (C : Nat → List D → Rs D) : List E → En → Rs D
  | [], _ => .bad
  | e :: es, ρ => (ev C e ρ).bind fun d => match es with
    | [] => .ok d
    | _ => (truth d).bind fun k => if k then evAnd C es ρ else .ok d
def evOr (C : Nat → List D → Rs D) : List E → En → Rs D
  | [], _ => .bad
  | e :: es, ρ => (ev C e ρ).bind fun d => match es with
    | [] => .ok d
    | _ => (truth d).bind fun k => if k then .ok d else evOr C es ρ
end

inductive Fl where
  | next (ρ : En)
  | ret (d : D)
  | exc (c : Str)
  | bad
def Rs.fl {α : Type} : Rs α → (α → Fl) → Fl
  | .ok a, f => f a
  | .exc c, _ => .exc c
  | .bad, _ => .bad
@[simp] theorem Rs.fl_ok {α : Type} (a : α) (f : α → Fl) : Rs.fl (.ok a) f = f a := rfl
@[simp] theorem Rs.fl_exc {α : Type} (c : Str) (f : α → Fl) : Rs.fl (.exc c) f = .exc c := rfl
@[simp] theorem Rs.fl_bad {α : Type} (f : α → Fl) : Rs.fl (.bad) f = .bad := rfl
def Fl.seq : Fl → (En → Fl) → Fl
  | .next ρ, f => f ρ
  | r, _ => r
@[simp] theorem Fl.seq_next (ρ : En) (f : En → Fl) : Fl.seq (.next ρ) f = f ρ := rfl
@[simp] theorem Fl.seq_ret (d : D) (f : En → Fl) : Fl.seq (.ret d) f = .ret d := rfl
@[simp] theorem Fl.seq_exc (c : Str) (f : En → Fl) : Fl.seq (.exc c) f = .exc c := rfl
@[simp] theorem Fl.seq_bad (f : En → Fl) : Fl.seq .bad f = .bad := rfl
/-- what an except clause makes of a refusal: a word, or None -/
def Fl.tryF (w : Bool) : Fl → Fl
  | .exc c => if c = "NoNode" then .ret (if w then .str "no node" else .none) else if c = "NoText" then .ret (if w then .str "no text" else .none) else .bad
  | r => r
def loopL (body : En → Fl) (tg : Tg) (kill : List Nat) : List D → En → Fl
  | [], ρ => .next ρ
  | x :: xs, ρ => (Rs.ofO (bindT tg x ρ)).fl fun ρ1 => (body ρ1).seq fun ρ2 => loopL body tg kill xs (killS ρ2 kill)
def whlL (test : En → Rs Bool) (body : En → Fl) (kill : List Nat) : Nat → En → Fl
  | 0, _ => .bad
  | n + 1, ρ => (test ρ).fl fun k => if k then (body ρ).seq fun ρ2 => whlL test body kill n (killS ρ2 kill) else .next ρ
def setO (o : Bool) (d : D) : Rs Sl := if o then (match d with | .list ds => .ok (.own ds) | _ => .bad) else .ok (.val d)
mutual
def evS (C : Nat → List D → Rs D) : S → En → Fl
  | .set i e, ρ => (ev C e ρ).fl fun d => .next (ρ.set i (.val d))
  | .own i e, ρ => (ev C e ρ).fl fun d => (setO true d).fl fun s => .next (ρ.set i s)
  | .unp tg e, ρ => (ev C e ρ).fl fun d => (Rs.ofO (bindT tg d ρ)).fl .next
  | .par i j oi oj a b, ρ => (ev C a ρ).fl fun x => (setO oi x).fl fun s => (ev C b ρ).fl fun y => (setO oj y).fl fun t => .next ((ρ.set i s).set j t)
  | .app i e, ρ => match getS ρ i with
    | .own ds => (ev C e ρ).fl fun d => if ds.length < line then .next (ρ.set i (.own (ds ++ [d]))) else .bad
    | _ => .bad
  | .ext i e, ρ => match getS ρ i with
    | .own ds => (ev C e ρ).fl fun d => match d with
      | .list xs => if ds.length + xs.length ≤ line then .next (ρ.set i (.own (ds ++ xs))) else .bad
      | _ => .bad
    | _ => .bad
  | .frz i s, ρ => evS C s (ρ.set i (thaw (getS ρ i)))
  | .loop tg k src body kill, ρ => (evs C src ρ).fl fun ds => (items k ds).fl fun xs => loopL (evSs C body) tg kill xs ρ
  | .whl n c body kill, ρ => whlL (fun ρ => (ev C c ρ).bind truth) (evSs C body) kill n ρ
  | .iff c a b, ρ => (ev C c ρ).fl fun d => (truth d).fl fun k => if k then evSs C a ρ else evSs C b ρ
  | .ret e, ρ => (ev C e ρ).fl .ret
  | .expr e, ρ => (ev C e ρ).fl fun _ => .next ρ
  | .rows f i es, ρ => match getS ρ i with
    | .own acc => (evs C es ρ).fl fun ds => match C f (ds ++ [.list acc]) with
      | .ok (.tuple zs) => .next (ρ.set i (.own zs))
      | .ok (.list zs) => .next (ρ.set i (.own zs))
      | _ => .bad
    | _ => .bad
  | .raise c, _ => .exc c
  | .dct i e, ρ => (ev C e ρ).fl fun d => (dctD d).fl fun kvs => .next (ρ.set i (.dct kvs))
  | .tryw w body, ρ => (evSs C body ρ).tryF w
def evSs (C : Nat → List D → Rs D) : List S → En → Fl
  | [], ρ => .next ρ
  | s :: r, ρ => (evS C s ρ).seq fun ρ' => evSs C r ρ'
end

/-- a def: how many parameters, how many names in all, the body; io: the last parameter is a list that the def fills, the body lacks its last line, which hands the list's items back (il: the list itself); dk: that parameter is a dict -/
structure Fd where
  np : Nat
  nn : Nat
  io : Bool
  il : Bool
  dk : Option Nat
  body : List S
def runB (C : Nat → List D → Rs D) (d : Fd) (args : List D) : Rs D :=
  .guard (decide (args.length = d.np)) (match evSs C d.body (args.map .val ++ List.replicate (d.nn - args.length) .no) with
    | .next _ => .ok .none
    | .ret x => .ok x
    | .exc c => .exc c
    | .bad => .bad)
def runI0 (C : Nat → List D → Rs D) (d : Fd) (args : List D) : Rs D :=
  .guard (decide (args.length = d.np)) (match args.getLast? with
    | some (.list acc) => (match evSs C d.body (args.dropLast.map .val ++ .own acc :: List.replicate (d.nn - args.length) .no) with
      | .next ρ => (match getS ρ (d.np - 1) with
        | .own zs => .guard (decide (zs.length ≤ line)) (.ok (if d.il then .list zs else .tuple zs))
        | _ => .bad)
      | _ => .bad)
    | _ => .bad)
def runK (C : Nat → List D → Rs D) (d : Fd) (j : Nat) (args : List D) : Rs D :=
  .guard (decide (args.length = d.np)) (match args[j]? with
    | some (.dict kvs) => (match evSs C d.body ((args.take j).map .val ++ .dct kvs :: (args.drop (j + 1)).map .val ++ List.replicate (d.nn - args.length) .no) with
      | .next _ => .ok .none
      | .ret x => .ok x
      | .exc c => .exc c
      | .bad => .bad)
    | _ => .bad)
def runI (C : Nat → List D → Rs D) (d : Fd) (args : List D) : Rs D := match d.dk with
  | none => runI0 C d args
  | some j => runK C d j args
def run (T : Nat → Option Fd) : Nat → Nat → List D → Rs D
  | 0, _, _ => .bad
  | k + 1, f, args => match T f with
    | some d => if d.io then runI (run T k) d args else runB (run T k) d args
    | none => .bad
end Pu
set_option maxHeartbeats 1000000
/-! ### data in the abstract heap -/
namespace Pu
open PySem PySem.Spec PyProof.Rows L2

theorem sameT {K : PySem.W.Frag} {H H' : Hp} {a : Addr} {xs : List V} (e : Same H H') (h : SqT K H a xs) : SqT K H' a xs := by
  rcases h with (h | ⟨o, h⟩) | h
  · exact .inl (.inl (e _ _ h))
  · exact .inl (.inr ⟨o, e _ _ h⟩)
  · exact .inr h
mutual
/-- v is d in F; lists are told lists -/
inductive Dq (K : PySem.W.Frag) (F : Hp) : V → PyData → Prop
  | non : Dq K F .non .none
  | bl (b : Bool) : Dq K F (.bl b) (.bool b)
  | int (i : Int) : Dq K F (.int i) (.int i)
  | str (x : Str) : Dq K F (.str x) (.str x)
  | lst {a : Addr} {xs : List V} {ds : List PyData} : F a = some (.lst xs) → DqAll K F xs ds → Dq K F (.ref a) (.list ds)
  | tup {a : Addr} {xs : List V} {ds : List PyData} : SqT K F a xs → DqAll K F xs ds → Dq K F (.ref a) (.tuple ds)
inductive DqAll (K : PySem.W.Frag) (F : Hp) : List V → List PyData → Prop
  | nil : DqAll K F [] []
  | cons {v : V} {vs : List V} {d : PyData} {ds : List PyData} : Dq K F v d → DqAll K F vs ds → DqAll K F (v :: vs) (d :: ds)
end
mutual
theorem dqMono {K : PySem.W.Frag} {H H' : Hp} (e : Same H H') : ∀ (d : PyData) (v : V), Dq K H v d → Dq K H' v d
  | .none, _, h => by cases h; exact .non
  | .bool b, _, h => by cases h; exact .bl b
  | .int i, _, h => by cases h; exact .int i
  | .str x, _, h => by cases h; exact .str x
  | .list ds, _, h => by
    cases h with
    | lst hs ha => exact .lst (e _ _ hs) (dqsMono e ds _ ha)
  | .tuple ds, _, h => by
    cases h with
    | tup hs ha => exact .tup (sameT e hs) (dqsMono e ds _ ha)
  | .dict _, _, h => by cases h
theorem dqsMono {K : PySem.W.Frag} {H H' : Hp} (e : Same H H') : ∀ (ds : List PyData) (vs : List V), DqAll K H vs ds → DqAll K H' vs ds
  | [], _, h => by cases h; exact .nil
  | d :: ds, _, h => by
    cases h with
    | cons h1 h2 => exact .cons (dqMono e d _ h1) (dqsMono e ds _ h2)
end
mutual
theorem dqDp {K : PySem.W.Frag} {H : Hp} : ∀ (d : PyData) (v : V), Dq K H v d → Dp K H v d
  | .none, _, h => by cases h; exact .non
  | .bool b, _, h => by cases h; exact .bl b
  | .int i, _, h => by cases h; exact .int i
  | .str x, _, h => by cases h; exact .str x
  | .list ds, _, h => by
    cases h with
    | lst hs ha => exact .lst (.of hs) (dqsDp ds _ ha)
  | .tuple ds, _, h => by
    cases h with
    | tup hs ha => exact .tup hs (dqsDp ds _ ha)
  | .dict _, _, h => by cases h
theorem dqsDp {K : PySem.W.Frag} {H : Hp} : ∀ (ds : List PyData) (vs : List V), DqAll K H vs ds → DpAll K H vs ds
  | [], _, h => by cases h; exact .nil
  | d :: ds, _, h => by
    cases h with
    | cons h1 h2 => exact .cons (dqDp d _ h1) (dqsDp ds _ h2)
end
/-- v is d in F; its texts are texts -/
structure DV (K : PySem.W.Frag) (F : Hp) (v : V) (d : D) : Prop where
  dp : Dq K F v d
  ok : d.canLay0 = true
structure DVs (K : PySem.W.Frag) (F : Hp) (vs : List V) (ds : List D) : Prop where
  dp : DqAll K F vs ds
  ok : PyData.canLayAll0 ds = true
section
variable {K : PySem.W.Frag} {F F' H H' : Hp} {v : V} {d : D} {vs ws : List V} {ds es : List D}
theorem DV.mono (e : Same F F') (h : DV K F v d) : DV K F' v d := ⟨dqMono e d v h.dp, h.ok⟩
theorem DVs.mono (e : Same F F') (h : DVs K F vs ds) : DVs K F' vs ds := ⟨dqsMono e ds vs h.dp, h.ok⟩
theorem DVs.nil : DVs K F [] [] := ⟨.nil, rfl⟩
theorem DVs.cons (h : DV K F v d) (t : DVs K F vs ds) : DVs K F (v :: vs) (d :: ds) := ⟨.cons h.dp t.dp, by
  show (d.canLay0 && PyData.canLayAll0 ds) = true
  rw [h.ok, t.ok]; rfl⟩
theorem DVs.uncons (h : DVs K F vs (d :: ds)) : ∃ v r, vs = v :: r ∧ DV K F v d ∧ DVs K F r ds := by
  obtain ⟨h, o⟩ := h
  have o' : (d.canLay0 && PyData.canLayAll0 ds) = true := o
  rw [Bool.and_eq_true] at o'
  cases h with
  | cons h1 h2 => exact ⟨_, _, rfl, ⟨h1, o'.1⟩, ⟨h2, o'.2⟩⟩
theorem DVs.unnil (h : DVs K F vs []) : vs = [] := by
  obtain ⟨h, _⟩ := h
  cases h
  rfl
theorem DVs.append : ∀ {vs : List V} {ds : List D}, DVs K F vs ds → DVs K F ws es → DVs K F (vs ++ ws) (ds ++ es)
  | vs, [], h, t => by rw [h.unnil]; exact t
  | vs, d :: ds, h, t => by
    obtain ⟨v, r, rfl, h1, h2⟩ := h.uncons
    exact .cons h1 (DVs.append h2 t)
theorem DVs.length : ∀ {vs : List V} {ds : List D}, DVs K F vs ds → vs.length = ds.length
  | vs, [], h => by rw [h.unnil]; rfl
  | vs, d :: ds, h => by
    obtain ⟨v, r, rfl, h1, h2⟩ := h.uncons
    rw [List.length_cons, List.length_cons, DVs.length h2]
theorem DVs.get : ∀ {ds : List D} {vs : List V} {i : Nat} {d : D}, DVs K F vs ds → ds[i]? = some d → ∃ v, vs[i]? = some v ∧ DV K F v d
  | [], _, _, _, _, e => by simp at e
  | d :: ds, vs, 0, d', h, e => by
    obtain ⟨v, r, rfl, h1, h2⟩ := h.uncons
    simp at e; subst e
    exact ⟨v, rfl, h1⟩
  | d :: ds, vs, i + 1, d', h, e => by
    obtain ⟨v, r, rfl, h1, h2⟩ := h.uncons
    obtain ⟨u, e1, e2⟩ := DVs.get (i := i) h2 (by simpa using e)
    exact ⟨u, by simpa using e1, e2⟩
theorem DVs.drop : ∀ {ds : List D} {vs : List V} (n : Nat), DVs K F vs ds → DVs K F (vs.drop n) (ds.drop n)
  | _, _, 0, h => h
  | [], vs, n + 1, h => by rw [h.unnil]; exact .nil
  | d :: ds, vs, n + 1, h => by
    obtain ⟨v, r, rfl, h1, h2⟩ := h.uncons
    exact DVs.drop n h2
theorem DVs.take : ∀ {ds : List D} {vs : List V} (n : Nat), DVs K F vs ds → DVs K F (vs.take n) (ds.take n)
  | _, _, 0, _ => .nil
  | [], vs, n + 1, h => by rw [h.unnil]; exact .nil
  | d :: ds, vs, n + 1, h => by
    obtain ⟨v, r, rfl, h1, h2⟩ := h.uncons
    exact .cons h1 (DVs.take n h2)
theorem DVs.reverse : ∀ {ds : List D} {vs : List V}, DVs K F vs ds → DVs K F vs.reverse ds.reverse
  | [], vs, h => by rw [h.unnil]; exact .nil
  | d :: ds, vs, h => by
    obtain ⟨v, r, rfl, h1, h2⟩ := h.uncons
    rw [List.reverse_cons, List.reverse_cons]
    exact (DVs.reverse h2).append (.cons h1 .nil)
theorem DVs.rep (h : DVs K F vs ds) : ∀ k : Nat, DVs K F (List.replicate k vs).flatten (List.replicate k ds).flatten
  | 0 => .nil
  | k + 1 => by
    rw [List.replicate_succ, List.replicate_succ, List.flatten_cons, List.flatten_cons]
    exact h.append (DVs.rep h k)
theorem DV.tup {a : Addr} (h : SqT K F a vs) (t : DVs K F vs ds) : DV K F (.ref a) (.tuple ds) := ⟨.tup h t.dp, t.ok⟩
theorem DV.lst {a : Addr} (h : F a = some (.lst vs)) (t : DVs K F vs ds) : DV K F (.ref a) (.list ds) := ⟨.lst h t.dp, t.ok⟩
theorem DV.untup (h : DV K F v (.tuple ds)) : ∃ a vs, v = .ref a ∧ SqT K F a vs ∧ DVs K F vs ds := by
  obtain ⟨h, o⟩ := h
  cases h with
  | tup h1 h2 => exact ⟨_, _, rfl, h1, h2, o⟩
theorem DV.unlst (h : DV K F v (.list ds)) : ∃ a vs, v = .ref a ∧ F a = some (.lst vs) ∧ DVs K F vs ds := by
  obtain ⟨h, o⟩ := h
  cases h with
  | lst h1 h2 => exact ⟨_, _, rfl, h1, h2, o⟩
theorem DV.unint {i : Int} (h : DV K F v (.int i)) : v = .int i := by
  obtain ⟨h, _⟩ := h
  cases h; rfl
theorem DV.unbl {b : Bool} (h : DV K F v (.bool b)) : v = .bl b := by
  obtain ⟨h, _⟩ := h
  cases h; rfl
theorem DV.unstr {x : Str} (h : DV K F v (.str x)) : v = .str x ∧ PyData.strOk x = true := by
  obtain ⟨h, o⟩ := h
  cases h; exact ⟨rfl, o⟩
theorem DV.unnon (h : DV K F v .none) : v = .non := by
  obtain ⟨h, _⟩ := h
  cases h; rfl
theorem DV.int (i : Int) : DV K F (.int i) (.int i) := ⟨.int i, rfl⟩
theorem DV.bl (b : Bool) : DV K F (.bl b) (.bool b) := ⟨.bl b, rfl⟩
theorem DV.str {x : Str} (h : PyData.strOk x = true) : DV K F (.str x) (.str x) := ⟨.str x, h⟩
theorem DV.non : DV K F .non .none := ⟨.non, rfl⟩
theorem DV.scal (h : DV K F v d) (s : scalar d = true) : DV K F' v d := by
  cases d with
  | none => rw [h.unnon]; exact .non
  | bool b => rw [h.unbl]; exact .bl b
  | int i => rw [h.unint]; exact .int i
  | str x => obtain ⟨e, o⟩ := h.unstr; rw [e]; exact .str o
  | list _ => exact absurd (show false = true from s) Bool.false_ne_true
  | tuple _ => exact absurd (show false = true from s) Bool.false_ne_true
  | dict _ => exact absurd (show false = true from s) Bool.false_ne_true

/-! ### steps -/
structure Stp (F H F' H' : Hp) : Prop where
  sH : Same H H'
  sF : Same F F'
  sub : Same F' H'
  new : ∀ b o, F' b = some o → F b = some o ∨ H b = none
theorem Stp.refl (s : Same F H) : Stp F H F H := ⟨Same.refl _, Same.refl _, s, fun _ _ e => .inl e⟩
theorem Stp.trans {F1 H1 F2 H2 : Hp} (a : Stp F H F1 H1) (b : Stp F1 H1 F2 H2) : Stp F H F2 H2 :=
  ⟨a.sH.trans b.sH, a.sF.trans b.sF, b.sub, fun c o e => by
    rcases b.new c o e with h | h
    · exact a.new c o h
    · exact .inr (a.sH.free h)⟩
theorem sameUpd {p : Addr} {o : HO} (h : H p = none) : Same H (upd H p o) := fun b u e => by
  rw [upd_ne (ne_of_none e h)]; exact e
/-- a new object, told -/
theorem Stp.laid {p : Addr} (s : Same F H) (h : H p = none) (o : HO) : Stp F H (upd F p o) (upd H p o) :=
  ⟨sameUpd h, sameUpd (s.free h), fun b u e => by
    by_cases hb : b = p
    · subst hb; rw [upd_same] at e ⊢; exact e
    · rw [upd_ne hb] at e ⊢; exact s b u e,
   fun b u e => by
    by_cases hb : b = p
    · subst hb; exact .inr h
    · rw [upd_ne hb] at e; exact .inl e⟩
/-- a new object, not told -/
theorem Stp.junk {p : Addr} (s : Same F H) (h : H p = none) (o : HO) : Stp F H F (upd H p o) :=
  ⟨sameUpd h, Same.refl _, s.trans (sameUpd h), fun _ _ e => .inl e⟩
/-- with another told part, that was told before -/
theorem Stp.less {F1 F1' : Hp} (s : Same F H) (a : Stp F1 H F1' H') : Stp F H F H' := ⟨a.sH, Same.refl _, s.trans a.sH, fun _ _ e => .inl e⟩
theorem DV.newTup {p : Addr} (h : DVs K F vs ds) (hp : F p = none) : DV K (upd F p (.tup vs)) (.ref p) (.tuple ds) :=
  .tup (.of upd_same) (h.mono (sameUpd hp))
theorem DV.newLst {p : Addr} (h : DVs K F vs ds) (hp : F p = none) : DV K (upd F p (.lst vs)) (.ref p) (.list ds) :=
  .lst upd_same (h.mono (sameUpd hp))
end

/-! ### names -/
/-- the written part, and the world (whose hashes a dict's entries hold) -/
structure KK where
  f : PySem.W.Frag
  w : World
instance : Coe KK PySem.W.Frag := ⟨KK.f⟩
abbrev _root_.L2.Cx.kk (X : L2.Cx) : KK := ⟨X.K, X.w⟩
/-- the dict at a, by its entries -/
def DctO (w : World) (a : Addr) (xs : List (NestedKey × Addr × Value)) : HO := .ext fun h => ∃ o es ep, h.get? a = some o ∧ o.ExactDict ∧ o.data = .dict es ep ∧ es.toList = xs.map fun x => ⟨x.1.hash w, .ref x.2.1, x.2.2⟩
inductive DctE (K : PySem.W.Frag) (F : Hp) : List (NestedKey × Addr × Value) → List (D × D) → Prop
  | nil : DctE K F [] []
  | cons {k : NestedKey} {b : Addr} {u : Value} {v : V} {kd d : D} {xs : List (NestedKey × Addr × Value)} {kvs : List (D × D)} : keyD kd = some k → DV K F (.ref b) kd → RelV v u → DV K F v d → DctE K F xs kvs → DctE K F ((k, b, u) :: xs) ((kd, d) :: kvs)
theorem DctE.mono {K : PySem.W.Frag} {F F' : Hp} (e : Same F F') : ∀ {xs : List (NestedKey × Addr × Value)} {kvs : List (D × D)}, DctE K F xs kvs → DctE K F' xs kvs
  | _, _, .nil => .nil
  | _, _, .cons h1 h2 h3 h4 h5 => .cons h1 (h2.mono e) h3 (h4.mono e) (DctE.mono e h5)
def SlOk (K : KK) (F H : Hp) (x : Option V) : Sl → Prop
  | .no => True
  | .val d => ∃ v, x = some v ∧ DV K F v d
  | .own ds => ∃ a xs, x = some (.ref a) ∧ F a = none ∧ H a = some (.lst xs) ∧ DVs K F xs ds
  | .scr ns => ∃ a, x = some (.ref a) ∧ SqL K F a (ns.map V.int)
  | .dct kvs => ∃ a xs, x = some (.ref a) ∧ F a = some (DctO K.w a xs) ∧ DctE K F xs kvs ∧ (xs.map (·.1)).Nodup
structure Rel (K : KK) (F0 B : Hp) (ρ : En) (σ : L2.St) (F H : Hp) : Prop where
  st : Stp F0 B F H
  len : ρ.length = σ.length
  sl : ∀ i, SlOk K F H (σ.getD i none) (getS ρ i)
  ob : ∀ i ds a, getS ρ i = .own ds → σ.getD i none = some (.ref a) → B a = none
  ap : ∀ i j ds es a, i ≠ j → getS ρ i = .own ds → getS ρ j = .own es → σ.getD i none = some (.ref a) → σ.getD j none ≠ some (.ref a)
theorem getS_set {ρ : En} {i : Nat} {x : Sl} (h : i < ρ.length) : getS (ρ.set i x) i = x := by
  unfold getS; rw [List.getD_eq_getElem?_getD, List.getElem?_set_self h]; rfl
theorem getS_ne {ρ : En} {i j : Nat} {x : Sl} (h : i ≠ j) : getS (ρ.set i x) j = getS ρ j := by
  unfold getS; rw [List.getD_eq_getElem?_getD, List.getElem?_set_ne h, List.getD_eq_getElem?_getD]
theorem getV_set {σ : L2.St} {i : Nat} {x : Option V} (h : i < σ.length) : (σ.set i x).getD i none = x := by
  rw [List.getD_eq_getElem?_getD, List.getElem?_set_self h]; rfl
theorem getV_ne {σ : L2.St} {i j : Nat} {x : Option V} (h : i ≠ j) : (σ.set i x).getD j none = σ.getD j none := by
  rw [List.getD_eq_getElem?_getD, List.getElem?_set_ne h, List.getD_eq_getElem?_getD]
theorem set_over {α : Type} {l : List α} {i : Nat} {x : α} (h : ¬ i < l.length) : l.set i x = l := List.set_eq_of_length_le (Nat.le_of_not_lt h)
theorem getV_some {σ : L2.St} {i : Nat} {v : V} (h : σ.getD i none = some v) : σ[i]? = some (some v) := by
  rw [List.getD_eq_getElem?_getD] at h
  cases e : σ[i]? with
  | none => rw [e] at h; cases h
  | some o => rw [e] at h; exact congrArg some h
section
variable {K : KK} {F0 B F F' H H' : Hp} {ρ : En} {σ : L2.St} {v : V} {d : D}
theorem SlOk.step {x : Option V} {s : Sl} (st : Stp F H F' H') (h : SlOk K F H x s) : SlOk K F' H' x s := by
  cases s with
  | no => trivial
  | val d => obtain ⟨v, e, h⟩ := h; exact ⟨v, e, h.mono st.sF⟩
  | scr ns => obtain ⟨a, e, h⟩ := h; exact ⟨a, e, st.sF.seq h⟩
  | dct kvs => obtain ⟨a, xs, e, h1, h2, h3⟩ := h; exact ⟨a, xs, e, st.sF _ _ h1, h2.mono st.sF, h3⟩
  | own ds =>
    obtain ⟨a, xs, e, n, l, h⟩ := h
    refine ⟨a, xs, e, ?_, st.sH _ _ l, h.mono st.sF⟩
    cases q : F' a with
    | none => rfl
    | some o =>
      rcases st.new a o q with z | z
      · rw [n] at z; cases z
      · rw [l] at z; cases z
theorem Rel.step (R : Rel K F0 B ρ σ F H) (st : Stp F H F' H') : Rel K F0 B ρ σ F' H' :=
  ⟨R.st.trans st, R.len, fun i => (R.sl i).step st, R.ob, R.ap⟩
theorem Rel.get (R : Rel K F0 B ρ σ F H) {i : Nat} (h : getS ρ i = .val d) : ∃ v, σ[i]? = some (some v) ∧ DV K F v d := by
  have q := R.sl i
  rw [h] at q
  obtain ⟨v, e, q⟩ := q
  exact ⟨v, getV_some e, q⟩
/-- any name is set to what is no list of its own -/
theorem Rel.put (R : Rel K F0 B ρ σ F H) (i : Nat) {s : Sl} {x : Option V} (hs : SlOk K F H x s) (no : ∀ ds, s ≠ .own ds) : Rel K F0 B (ρ.set i s) (σ.set i x) F H := by
  by_cases hi : i < ρ.length
  · have hi' : i < σ.length := by rw [← R.len]; exact hi
    refine ⟨R.st, by rw [List.length_set, List.length_set]; exact R.len, fun j => ?_, fun j ds a e1 e2 => ?_, fun j k ds es a hjk e1 e2 e3 => ?_⟩
    · by_cases hj : i = j
      · subst hj; rw [getS_set hi, getV_set hi']; exact hs
      · rw [getS_ne hj, getV_ne hj]; exact R.sl j
    · by_cases hj : i = j
      · subst hj; rw [getS_set hi] at e1; exact absurd e1 (no ds)
      · rw [getS_ne hj] at e1; rw [getV_ne hj] at e2; exact R.ob j ds a e1 e2
    · by_cases hj : i = j
      · subst hj; rw [getS_set hi] at e1; exact absurd e1 (no ds)
      · by_cases hk : i = k
        · subst hk; rw [getS_set hi] at e2; exact absurd e2 (no es)
        · rw [getS_ne hj] at e1; rw [getS_ne hk] at e2; rw [getV_ne hj] at e3; rw [getV_ne hk]
          exact R.ap j k ds es a hjk e1 e2 e3
  · rw [set_over hi, set_over (by rw [← R.len]; exact hi)]
    exact R
theorem Rel.set (R : Rel K F0 B ρ σ F H) (i : Nat) (h : DV K F v d) : Rel K F0 B (ρ.set i (.val d)) (σ.set i (some v)) F H :=
  R.put i ⟨v, rfl, h⟩ fun _ z => nomatch z
theorem set_self {σ : L2.St} {i : Nat} : σ.set i (σ.getD i none) = σ := by
  apply List.ext_getElem?
  intro j
  by_cases hj : i = j
  · subst hj
    by_cases hi : i < σ.length
    · rw [List.getElem?_set_self hi, List.getD_eq_getElem?_getD, List.getElem?_eq_getElem hi]; rfl
    · rw [set_over hi]
  · rw [List.getElem?_set_ne hj]
/-- a name is forgotten -/
theorem Rel.kill (R : Rel K F0 B ρ σ F H) (i : Nat) : Rel K F0 B (ρ.set i .no) σ F H := by
  have q := R.put i (s := .no) (x := σ.getD i none) trivial (fun _ z => nomatch z)
  rw [set_self] at q
  exact q
theorem Rel.kills : ∀ {is : List Nat} {ρ : En}, Rel K F0 B ρ σ F H → Rel K F0 B (killS ρ is) σ F H
  | [], _, R => R
  | i :: r, ρ, R => Rel.kills (is := r) (R.kill i)
theorem killS_set (ρ : En) (i : Nat) : ∀ is : List Nat, killS (ρ.set i .no) is = (killS ρ is).set i .no := by
  intro is
  induction is generalizing ρ with
  | nil => rfl
  | cons j r ih =>
    show killS ((ρ.set i .no).set j .no) r = (killS (ρ.set j .no) r).set i .no
    by_cases hj : i = j
    · subst hj
      rw [List.set_set, ← ih]
      rw [List.set_set]
    · rw [List.set_comm _ _ hj, ih]
theorem Rel.wipes : ∀ {is : List Nat}, Rel K F0 B ρ σ F H → Rel K F0 B (killS ρ is) (wipe σ is) F H
  | [], R => R
  | i :: r, R => by
    show Rel K F0 B (killS (ρ.set i .no) r) ((wipe σ r).set i none) F H
    rw [killS_set]
    exact (Rel.wipes (is := r) R).put i trivial fun _ z => nomatch z
/-- a new list of its own -/
theorem Rel.own (R : Rel K F0 B ρ σ F H) (i : Nat) {ds : List D} {a : Addr} {xs : List V} (ha : F a = none) (hl : H a = some (.lst xs)) (hB : B a = none) (h : DVs K F xs ds)
    (fresh : ∀ j es, j ≠ i → getS ρ j = .own es → σ.getD j none ≠ some (.ref a)) : Rel K F0 B (ρ.set i (.own ds)) (σ.set i (some (.ref a))) F H := by
  by_cases hi : i < ρ.length
  · have hi' : i < σ.length := by rw [← R.len]; exact hi
    refine ⟨R.st, by rw [List.length_set, List.length_set]; exact R.len, fun j => ?_, fun j es b e1 e2 => ?_, fun j k es es' b hjk e1 e2 e3 => ?_⟩
    · by_cases hj : i = j
      · subst hj; rw [getS_set hi, getV_set hi']; exact ⟨a, xs, rfl, ha, hl, h⟩
      · rw [getS_ne hj, getV_ne hj]; exact R.sl j
    · by_cases hj : i = j
      · subst hj; rw [getV_set hi'] at e2; cases e2; exact hB
      · rw [getS_ne hj] at e1; rw [getV_ne hj] at e2; exact R.ob j es b e1 e2
    · by_cases hj : i = j
      · subst hj
        rw [getV_set hi'] at e3; cases e3
        rw [getS_ne hjk] at e2; rw [getV_ne hjk]
        exact fresh k es' (Ne.symm hjk) e2
      · by_cases hk : i = k
        · subst hk
          rw [getS_ne hj] at e1; rw [getV_ne hj] at e3; rw [getV_set hi']
          intro z
          cases z
          exact fresh j es (Ne.symm hj) e1 e3
        · rw [getS_ne hj] at e1; rw [getS_ne hk] at e2; rw [getV_ne hj] at e3; rw [getV_ne hk]
          exact R.ap j k es es' b hjk e1 e2 e3
  · rw [set_over hi, set_over (by rw [← R.len]; exact hi)]
    exact R
theorem Rel.getOwn (R : Rel K F0 B ρ σ F H) {i : Nat} {ds : List D} (h : getS ρ i = .own ds) : ∃ a xs, σ[i]? = some (some (.ref a)) ∧ σ.getD i none = some (.ref a) ∧ F a = none ∧ B a = none ∧ H a = some (.lst xs) ∧ DVs K F xs ds ∧
    ∀ j es, j ≠ i → getS ρ j = .own es → σ.getD j none ≠ some (.ref a) := by
  have q := R.sl i
  rw [h] at q
  obtain ⟨a, xs, e, n, l, q⟩ := q
  exact ⟨a, xs, getV_some e, e, n, R.ob i ds a h e, l, q, fun j es hj e2 => R.ap i j ds es a (Ne.symm hj) h e2 e⟩
theorem getS_lt {i : Nat} {s : Sl} (h : getS ρ i = s) (hs : s ≠ .no) : i < ρ.length := by
  by_cases hi : i < ρ.length
  · exact hi
  · unfold getS at h
    rw [List.getD_eq_getElem?_getD, List.getElem?_eq_none (Nat.le_of_not_lt hi)] at h
    exact absurd h.symm hs
/-- the list of its own is written -/
theorem Rel.write (R : Rel K F0 B ρ σ F H) {i : Nat} {ds es : List D} {a : Addr} {xs ys : List V} (h : getS ρ i = .own ds) (e : σ.getD i none = some (.ref a)) (ha : F a = none) (hB : B a = none) (hl : H a = some (.lst xs)) (hy : DVs K F ys es) :
    Rel K F0 B (ρ.set i (.own es)) σ F (upd H a (.lst ys)) := by
  have hi : i < ρ.length := getS_lt h (fun z => nomatch z)
  have st : Stp F0 B F (upd H a (.lst ys)) := ⟨fun b o z => by rw [upd_ne (fun q => by rw [q, hB] at z; cases z)]; exact R.st.sH b o z, R.st.sF,
    fun b o z => by rw [upd_ne (fun q => by rw [q, ha] at z; cases z)]; exact R.st.sub b o z, R.st.new⟩
  refine ⟨st, by rw [List.length_set]; exact R.len, fun j => ?_, fun j es' b e1 e2 => ?_, fun j k es1 es2 b hjk e1 e2 e3 => ?_⟩
  · by_cases hj : i = j
    · subst hj; rw [getS_set hi, e]; exact ⟨a, ys, rfl, ha, upd_same, hy⟩
    · rw [getS_ne hj]
      have q := R.sl j
      cases z : getS ρ j with
      | no => trivial
      | val d => rw [z] at q; exact q
      | scr ns => rw [z] at q; exact q
      | dct ns => rw [z] at q; exact q
      | own es3 =>
        rw [z] at q
        obtain ⟨b, zs, q1, q2, q3, q4⟩ := q
        refine ⟨b, zs, q1, q2, ?_, q4⟩
        rw [upd_ne]
        · exact q3
        · intro w
          subst w
          exact R.ap i j ds es3 _ hj h z e q1
  · by_cases hj : i = j
    · subst hj; rw [e] at e2; cases e2; exact hB
    · rw [getS_ne hj] at e1; exact R.ob j es' b e1 e2
  · by_cases hj : i = j
    · subst hj
      rw [getS_ne hjk] at e2
      exact R.ap i k ds es2 b hjk h e2 e3
    · by_cases hk : i = k
      · subst hk
        rw [getS_ne hj] at e1
        exact R.ap j i es1 ds b hjk e1 h e3
      · rw [getS_ne hj] at e1; rw [getS_ne hk] at e2
        exact R.ap j k es1 es2 b hjk e1 e2 e3
/-- the list of its own is a value from now on -/
theorem Rel.freeze (R : Rel K F0 B ρ σ F H) {i : Nat} {ds : List D} (h : getS ρ i = .own ds) : ∃ F', Rel K F0 B (ρ.set i (.val (.list ds))) σ F' H := by
  obtain ⟨a, xs, e0, e, ha, hB, hl, hd, ap⟩ := R.getOwn h
  have hi : i < ρ.length := getS_lt h (fun z => nomatch z)
  have sF : Same F (upd F a (.lst xs)) := sameUpd ha
  refine ⟨upd F a (.lst xs), ⟨R.st.sH, R.st.sF.trans sF, fun b o z => ?_, fun b o z => ?_⟩, by rw [List.length_set]; exact R.len, fun j => ?_, fun j es b e1 e2 => ?_, fun j k es1 es2 b hjk e1 e2 e3 => ?_⟩
  · by_cases hb : b = a
    · subst hb; rw [upd_same] at z; rw [hl]; exact z
    · rw [upd_ne hb] at z; exact R.st.sub b o z
  · by_cases hb : b = a
    · subst hb; exact .inr hB
    · rw [upd_ne hb] at z; exact R.st.new b o z
  · by_cases hj : i = j
    · subst hj; rw [getS_set hi, e]; exact ⟨_, rfl, .newLst hd ha⟩
    · rw [getS_ne hj]
      have q := R.sl j
      cases z : getS ρ j with
      | no => trivial
      | val d => rw [z] at q; obtain ⟨v, q1, q2⟩ := q; exact ⟨v, q1, q2.mono sF⟩
      | scr ns => rw [z] at q; obtain ⟨v, q1, q2⟩ := q; exact ⟨v, q1, sF.seq q2⟩
      | dct kvs => rw [z] at q; obtain ⟨a', xs', e', h1', h2', h3'⟩ := q; exact ⟨a', xs', e', sF _ _ h1', h2'.mono sF, h3'⟩
      | own es3 =>
        rw [z] at q
        obtain ⟨b, zs, q1, q2, q3, q4⟩ := q
        refine ⟨b, zs, q1, ?_, q3, q4.mono sF⟩
        rw [upd_ne]
        · exact q2
        · intro w
          subst w
          exact ap j es3 (Ne.symm hj) z q1
  · by_cases hj : i = j
    · subst hj; rw [getS_set hi] at e1; cases e1
    · rw [getS_ne hj] at e1; exact R.ob j es b e1 e2
  · by_cases hj : i = j
    · subst hj; rw [getS_set hi] at e1; cases e1
    · by_cases hk : i = k
      · subst hk; rw [getS_set hi] at e2; cases e2
      · rw [getS_ne hj] at e1; rw [getS_ne hk] at e2
        exact R.ap j k es1 es2 b hjk e1 e2 e3
theorem set_getS (i : Nat) : ρ.set i (getS ρ i) = ρ := by
  apply List.ext_getElem?
  intro j
  by_cases hj : i = j
  · subst hj
    by_cases hi : i < ρ.length
    · rw [List.getElem?_set_self hi]; unfold getS; rw [List.getD_eq_getElem?_getD, List.getElem?_eq_getElem hi]; rfl
    · rw [set_over hi]
  · rw [List.getElem?_set_ne hj]
theorem Rel.thaw1 (R : Rel K F0 B ρ σ F H) (i : Nat) : ∃ F', Rel K F0 B (ρ.set i (thaw (getS ρ i))) σ F' H := by
  cases h : getS ρ i with
  | own ds => exact R.freeze h
  | no => have q := set_getS (ρ := ρ) i; rw [h] at q; refine ⟨F, ?_⟩; show Rel K F0 B (ρ.set i .no) σ F H; rw [q]; exact R
  | val d => have q := set_getS (ρ := ρ) i; rw [h] at q; refine ⟨F, ?_⟩; show Rel K F0 B (ρ.set i (.val d)) σ F H; rw [q]; exact R
  | scr d => have q := set_getS (ρ := ρ) i; rw [h] at q; refine ⟨F, ?_⟩; show Rel K F0 B (ρ.set i (.scr d)) σ F H; rw [q]; exact R
  | dct d => have q := set_getS (ρ := ρ) i; rw [h] at q; refine ⟨F, ?_⟩; show Rel K F0 B (ρ.set i (.dct d)) σ F H; rw [q]; exact R
theorem getS_map (i : Nat) : getS (ρ.map thaw) i = thaw (getS ρ i) := by
  unfold getS
  rw [List.getD_eq_getElem?_getD, List.getD_eq_getElem?_getD, List.getElem?_map]
  cases ρ[i]? <;> rfl
/-- all lists of its own as values, for a look -/
theorem Rel.look (R : Rel K F0 B ρ σ F H) : ∃ F', Rel K F0 B (ρ.map thaw) σ F' H := by
  have go : ∀ n : Nat, ∃ F' ρ', Rel K F0 B ρ' σ F' H ∧ ρ'.length = ρ.length ∧ ∀ j, getS ρ' j = if j < n then thaw (getS ρ j) else getS ρ j := by
    intro n
    induction n with
    | zero => exact ⟨F, ρ, R, rfl, fun j => by rw [if_neg (Nat.not_lt_zero _)]⟩
    | succ n ih =>
      obtain ⟨F1, ρ1, R1, l1, h1⟩ := ih
      obtain ⟨F2, R2⟩ := R1.thaw1 n
      refine ⟨F2, _, R2, by rw [List.length_set]; exact l1, fun j => ?_⟩
      by_cases hj : n = j
      · subst hj
        rw [if_pos (Nat.lt_succ_self _)]
        by_cases hn : n < ρ1.length
        · rw [getS_set hn, h1, if_neg (Nat.lt_irrefl _)]
        · rw [set_over hn, h1, if_neg (Nat.lt_irrefl _)]
          have : getS ρ n = .no := by unfold getS; rw [List.getD_eq_getElem?_getD, List.getElem?_eq_none (by rw [← l1]; exact Nat.le_of_not_lt hn)]; rfl
          rw [this]; rfl
      · rw [getS_ne hj, h1]
        by_cases hlt : j < n
        · rw [if_pos hlt, if_pos (Nat.lt_succ_of_lt hlt)]
        · rw [if_neg hlt, if_neg (by omega)]
  obtain ⟨F', ρ', R', l', h'⟩ := go ρ.length
  refine ⟨F', ?_⟩
  have e : ρ' = ρ.map thaw := by
    apply List.ext_getElem?
    intro j
    by_cases hj : j < ρ.length
    · have q := h' j
      rw [if_pos hj, ← getS_map] at q
      unfold getS at q
      rw [List.getD_eq_getElem?_getD, List.getD_eq_getElem?_getD, List.getElem?_eq_getElem (by rw [l']; exact hj), List.getElem?_eq_getElem (by rw [List.length_map]; exact hj)] at q
      rw [List.getElem?_eq_getElem (by rw [l']; exact hj), List.getElem?_eq_getElem (by rw [List.length_map]; exact hj)]
      exact congrArg some q
    · rw [List.getElem?_eq_none (by rw [l']; exact Nat.le_of_not_lt hj), List.getElem?_eq_none (by rw [List.length_map]; exact Nat.le_of_not_lt hj)]
  rw [e] at R'
  exact R'
end
end Pu
/-! ### operators upon data -/
namespace Pu
open PySem PySem.Spec PyProof.Rows L2

theorem strOk_list {x : Str} : PyData.strOk x = true ↔ ∀ c ∈ x.cps.toList, c < 0x110000 := by
  unfold PyData.strOk
  rw [← Array.all_toList, List.all_eq_true]
  exact ⟨fun h c hc => of_decide_eq_true (h c hc), fun h c hc => decide_eq_true (h c hc)⟩
theorem strOk_app {x y : Str} (h : PyData.strOk x = true) (h' : PyData.strOk y = true) : PyData.strOk (x ++ y) = true := by
  rw [strOk_list] at h h' ⊢
  intro c hc
  have e : (x ++ y).cps.toList = x.cps.toList ++ y.cps.toList := by show (x.cps ++ y.cps).toList = _; simp
  rw [e, List.mem_append] at hc
  exact hc.elim (h c) (h' c)
theorem strOk_sub {x : Str} {l : List Nat} (h : PyData.strOk x = true) (s : ∀ c ∈ l, c ∈ x.cps.toList) : PyData.strOk ⟨l.toArray⟩ = true := by
  rw [strOk_list] at h ⊢
  intro c hc
  exact h c (s c (by simpa using hc))
theorem mem_cut {α : Type} {xs : List α} {i j : Nat} {a : α} (h : a ∈ (xs.drop i).take j) : a ∈ xs := List.mem_of_mem_drop (List.mem_of_mem_take h)
theorem mem_rep {α : Type} {k : Int} {xs : List α} {a : α} (h : a ∈ repL k xs) : a ∈ xs := by
  unfold repL at h
  obtain ⟨l, h1, h2⟩ := List.mem_flatten.mp h
  rw [List.eq_of_mem_replicate h1] at h2
  exact h2
theorem guard_ok {α : Type} {b : Bool} {r : Rs α} {a : α} (h : Rs.guard b r = .ok a) : b = true ∧ r = .ok a := by
  cases b with
  | true => exact ⟨rfl, h⟩
  | false => cases h
theorem bind_inv {α β : Type} {r : Rs α} {f : α → Rs β} {b : β} (h : Rs.bind r f = .ok b) : ∃ a, r = .ok a ∧ f a = .ok b := by
  cases r with
  | ok a => exact ⟨a, rfl, h⟩
  | exc c => cases h
  | bad => cases h
theorem ofO_inv {α : Type} {o : Option α} {a : α} (h : Rs.ofO o = .ok a) : o = some a := by
  cases o with
  | none => cases h
  | some b => cases h; rfl
theorem okInj {α : Type} {a b : α} (h : (Rs.ok a : Rs α) = .ok b) : a = b := by cases h; rfl

/-- an operator's reading by data -/
def rOp (K : PySem.W.Frag) (f : D → D → Rs D) : R2 := fun x y H Q => ∃ F a b d, Same F H ∧ DV K F x a ∧ DV K F y b ∧ f a b = .ok d ∧ ∀ v F' H', Stp F H F' H' → DV K F' v d → Q v H'
def bopO : Bop → Operator
  | .add => .Add
  | .sub => .Sub
  | .mul => .Mult
  | .mod => .Mod
def copO : Cop → CmpOp
  | .eq => .Eq
  | .ne => .NotEq
  | .lt => .Lt
  | .le => .LtE
  | .gt => .Gt
  | .ge => .GtE
  | .isin => .In
  | .notin => .NotIn
section
variable {X : Cx}
theorem or_add : OpR X (binaryOp .Add) (rOp X.K addD) := by
  intro pins s σ H x y v u Q I rx ry h
  obtain ⟨F, a, b, d, sF, ha, hb, e, q⟩ := h
  match a, b, e, ha, hb with
  | .int i, .int j, e, ha, hb =>
    have e := okInj e
    subst e
    exact op_add pins s σ H x y v u Q I rx ry ⟨i, j, ha.unint, hb.unint, q _ _ _ (Stp.refl sF) (.int _)⟩
  | .str i, .str j, e, ha, hb =>
    obtain ⟨g, e⟩ := guard_ok e
    have e := okInj e
    subst e
    exact op_add_str pins s σ H x y v u Q I rx ry ⟨i, j, ha.unstr.1, hb.unstr.1, of_decide_eq_true g, q _ _ _ (Stp.refl sF) (.str (strOk_app ha.unstr.2 hb.unstr.2))⟩
  | .tuple xs, .tuple ys, e, ha, hb =>
    obtain ⟨g, e⟩ := guard_ok e
    have e := okInj e
    subst e
    obtain ⟨p, vs, rfl, h1, h2⟩ := ha.untup
    obtain ⟨p', ws, rfl, h3, h4⟩ := hb.untup
    have hg : vs.length + ws.length ≤ sizeLine := by rw [h2.length, h4.length, sizeLine_eq]; exact of_decide_eq_true g
    refine op_catA pins s σ H _ _ v u Q I rx ry ⟨p, p', vs, ws, rfl, rfl, sameT sF h1, sameT sF h3, hg, fun z => ?_, fun _ z => ?_, fun _ _ p2 hp => ?_⟩
    · subst z
      have : xs = [] := List.eq_nil_of_length_eq_zero (by rw [← h2.length]; rfl)
      subst this
      exact q _ _ _ (Stp.refl sF) hb
    · subst z
      have : ys = [] := List.eq_nil_of_length_eq_zero (by rw [← h4.length]; rfl)
      subst this
      rw [List.append_nil] at q
      exact q _ _ _ (Stp.refl sF) ha
    · exact q _ _ _ (Stp.laid sF hp _) (.newTup (h2.append h4) (sF.free hp))
  | .list xs, .list ys, e, ha, hb =>
    obtain ⟨g, e⟩ := guard_ok e
    have e := okInj e
    subst e
    obtain ⟨p, vs, rfl, h1, h2⟩ := ha.unlst
    obtain ⟨p', ws, rfl, h3, h4⟩ := hb.unlst
    have hg : vs.length + ws.length ≤ sizeLine := by rw [h2.length, h4.length, sizeLine_eq]; exact of_decide_eq_true g
    exact op_cat pins s σ H _ _ v u Q I rx ry ⟨p, p', vs, ws, rfl, rfl, sF _ _ h1, sF _ _ h3, hg, fun p2 hp => q _ _ _ (Stp.laid sF hp _) (.newLst (h2.append h4) (sF.free hp))⟩
theorem or_sub : OpR X (binaryOp .Sub) (rOp X.K subD) := by
  intro pins s σ H x y v u Q I rx ry h
  obtain ⟨F, a, b, d, sF, ha, hb, e, q⟩ := h
  match a, b, e, ha, hb with
  | .int i, .int j, e, ha, hb =>
    have e := okInj e
    subst e
    exact op_sub pins s σ H x y v u Q I rx ry ⟨i, j, ha.unint, hb.unint, q _ _ _ (Stp.refl sF) (.int _)⟩
theorem or_mod : OpR X (binaryOp .Mod) (rOp X.K modD) := by
  intro pins s σ H x y v u Q I rx ry h
  obtain ⟨F, a, b, d, sF, ha, hb, e, q⟩ := h
  match a, b, e, ha, hb with
  | .int i, .int j, e, ha, hb =>
    obtain ⟨g, e⟩ := guard_ok e
    have e := okInj e
    subst e
    exact op_mod pins s σ H x y v u Q I rx ry ⟨i, j, ha.unint, hb.unint, of_decide_eq_true g, q _ _ _ (Stp.refl sF) (.int _)⟩
theorem rep_len {α : Type} (k : Int) (xs : List α) : (repL k xs).length = xs.length * k.toNat := by
  unfold repL
  rw [PyProof.Rows.lm_len_rep_flat, Nat.mul_comm]
theorem str_two (x : Str) : (⟨(List.replicate 2 x.cps).foldl (· ++ ·) #[]⟩ : Str) = x ++ x := by
  show (⟨(#[] ++ x.cps) ++ x.cps⟩ : Str) = ⟨x.cps ++ x.cps⟩
  rw [Array.empty_append]
theorem tuple_mul1 (l : Addr) (items : Array Value) (n : Nat) (dd : Option Addr) (sl : Array (Option Value)) (u : Tok) :
    Meets (Builtin.«tuple.__mul__» ⟨[.ref l, .int 1 u], []⟩) (fun _ R s => s.heap.get? l = some { cls := .type "tuple", dict := dd, data := .seq items n, slots := sl } ∧ R (.ok (.ret (Value.ref l))) s) :=
  .of_wp fun prog w A R s h => by
    obtain ⟨hp, g, d, tk, os⟩ := s
    obtain ⟨hl, h⟩ := h
    have f1 := AutoSeq1.idx_int
    have hT : Shared.TypeIs ⟨hp, g, d, tk, os⟩ (.ref l) "tuple" := ⟨_, hl, rfl⟩
    wp_walk using AutoSeq1.wpAny_loadPart' hl
    exact ⟨_, rfl, h⟩
def rRep1 (K : PySem.W.Frag) : R2 := fun x y H Q => ∃ l xs, x = .ref l ∧ y = .int 1 ∧ SqT K H l xs ∧ Q (.ref l) H
theorem op_rep1 : OpR X (binaryOp .Mult) (rRep1 X.K) := by
  intro pins s σ H x y v u Q I rx ry h
  obtain ⟨l, xs, rfl, rfl, hT, q⟩ := h
  cases rx
  obtain ⟨t, rfl⟩ := ry
  obtain ⟨its, r, ⟨⟨cls, dd, data, sl⟩, ho, hc, n, hd⟩, hs⟩ := I.tuple hT
  simp only at hc hd
  subst hc hd
  refine wpAny_binaryOp_repeat_ref (T := "tuple") (U := "int") (by decide) ⟨_, ho, rfl⟩ (fun s' => typeIs_int s' 1 t) noFill_tuple_mul F.fills_int_mul F.slot_int_rmul repeat_tuple F.slot_int_index.lookup
    (call_meets F.slot_int_rmul (typeIs_int s 1 t) F.entry_int_rmul (F.args_int_rmul_2 _ _) (int_rmul_tuple 1 t l its.toArray n dd sl)
      ⟨ho, rfl, ⟨_, ho, rfl⟩, call_meets F.slot_tuple_mul ⟨_, ho, rfl⟩ F.entry_tuple_mul (F.args_tuple_mul_2 _ _) (tuple_mul1 l its.toArray n dd sl t) ⟨ho, ?_⟩⟩)
  exact ⟨.ref l, H, I, rfl, q⟩
theorem or_mul : OpR X (binaryOp .Mult) (rOp X.K mulD) := by
  intro pins s σ H x y v u Q I rx ry h
  obtain ⟨F, a, b, d, sF, ha, hb, e, q⟩ := h
  match a, b, e, ha, hb with
  | .int i, .int j, e, ha, hb =>
    obtain ⟨g, e⟩ := guard_ok e
    have e := okInj e
    subst e
    refine op_mul pins s σ H x y v u Q I rx ry ⟨i, j, ha.unint, hb.unint, ?_, q _ _ _ (Stp.refl sF) (.int _)⟩
    rw [Bool.or_eq_true] at g
    unfold small64 at g
    rcases g with g | g
    · rw [Bool.and_eq_true] at g
      exact .inl ⟨of_decide_eq_true g.1, of_decide_eq_true g.2⟩
    · rw [Bool.and_eq_true] at g
      exact .inr ⟨of_decide_eq_true g.1, of_decide_eq_true g.2⟩
  | .list xs, .int k, e, ha, hb =>
    obtain ⟨g, e⟩ := guard_ok e
    have e := okInj e
    subst e
    obtain ⟨p, vs, rfl, h1, h2⟩ := ha.unlst
    rw [Bool.and_eq_true, Bool.and_eq_true] at g
    refine op_rep pins s σ H _ y v u Q I rx ry ⟨p, k, vs, rfl, hb.unint, sF _ _ h1, of_decide_eq_true g.1.1, of_decide_eq_true g.1.2, ?_, fun p2 hp => q _ _ _ (Stp.laid sF hp _) (.newLst (h2.rep _) (sF.free hp))⟩
    rw [h2.length, sizeLine_eq]
    exact of_decide_eq_true g.2
  | .str x, .int k, e, ha, hb =>
    obtain ⟨g, e⟩ := guard_ok e
    have e := okInj e
    subst e
    rw [Bool.and_eq_true] at g
    obtain ⟨rfl, ok⟩ := ha.unstr
    have hk := of_decide_eq_true g.1
    subst hk
    have hl := of_decide_eq_true g.2
    have hv := hb.unint
    subst hv
    obtain ⟨t, rfl⟩ := rx
    obtain ⟨t2, rfl⟩ := ry
    refine P.mul_str (by decide) (fun _ h => ?_) (fun _ h => ?_) ?_
    · have : (2 ^ 63 - 1 : Int) / 2 = 4611686018427387903 := by decide
      rw [this]
      have hl : x.length * 2 ≤ 16777216 := hl
      omega
    · have hl : x.length * 2 ≤ 16777216 := hl
      show Builtin.Str.tooLong (x.length * 2) = false
      unfold Builtin.Str.tooLong
      exact decide_eq_false (by rw [sizeLine_eq]; omega)
    · rw [if_neg (by decide)]
      by_cases hz : ((2 : Int) == 1 || x.length == 0) = true
      · rw [if_pos hz]
        have hz : x.length = 0 := by simpa using hz
        have hc : x = ⟨#[]⟩ := by
          obtain ⟨cps⟩ := x
          have hz : cps.size = 0 := hz
          rw [Array.eq_empty_of_size_eq_zero hz]
        subst hc
        exact ⟨.str ⟨#[]⟩, H, I, ⟨_, rfl⟩, q _ _ _ (Stp.refl sF) (.str ok)⟩
      · rw [if_neg hz]
        have e2 := str_two x
        rw [show Int.toNat 2 = 2 from rfl, e2]
        have hok := strOk_app ok ok
        exact ⟨by have hl : x.length * 2 ≤ 16777216 := hl; show (x ++ x).length ≤ sizeLine; rw [sizeLine_eq]; show (x.cps ++ x.cps).size ≤ _; rw [Array.size_append]; have : x.length = x.cps.size := rfl; omega, ⟨.str (x ++ x), H, I.tok _, ⟨_, rfl⟩, q _ _ _ (Stp.refl sF) (.str hok)⟩⟩
  | .tuple xs, .int k, e, ha, hb =>
    obtain ⟨g, e⟩ := guard_ok e
    have e := okInj e
    subst e
    obtain ⟨p, vs, rfl, h1, h2⟩ := ha.untup
    rw [Bool.and_eq_true, Bool.and_eq_true, Bool.and_eq_true] at g
    have g1 := of_decide_eq_true g.1.1.2
    by_cases hk : k = 1
    · subst hk
      have e1 : repL 1 xs = xs := by simp [repL]
      rw [e1] at q
      exact op_rep1 pins s σ H _ y v u Q I rx ry ⟨p, vs, rfl, hb.unint, sameT sF h1, q _ _ _ (Stp.refl sF) ha⟩
    refine op_repT pins s σ H _ y v u Q I rx ry ⟨p, k, vs, rfl, hb.unint, sameT sF h1, ?_, by omega, of_decide_eq_true g.1.2, by rw [h2.length]; exact of_decide_eq_true g.2, fun p2 hp => q _ _ _ (Stp.laid sF hp _) (.newTup (h2.rep _) (sF.free hp))⟩
    intro z
    subst z
    have : xs = [] := List.eq_nil_of_length_eq_zero (by rw [← h2.length]; rfl)
    subst this
    exact absurd g.1.1.1 (by decide)
/-! comparisons -/
def rCm (f : D → D → Rs Bool) : D → D → Rs D := fun a b => (f a b).bind fun k => .ok (.bool k)
theorem or_cmpI {op : CmpOp} {p : Int → Int → Bool} (ho : OpR X (compareOp op) (rI0 fun i j => .bl (p i j))) : OpR X (compareOp op) (rOp X.K (rCm (cmpI p))) := by
  intro pins s σ H x y v u Q I rx ry h
  obtain ⟨F, a, b, d, sF, ha, hb, e, q⟩ := h
  obtain ⟨k, e1, e2⟩ := bind_inv e
  have e2 := okInj e2
  subst e2
  match a, b, e1, ha, hb with
  | .int i, .int j, e, ha, hb =>
    have e := okInj e
    subst e
    exact ho pins s σ H x y v u Q I rx ry ⟨i, j, ha.unint, hb.unint, q _ _ _ (Stp.refl sF) (.bl _)⟩
theorem or_gt (hu : X.A.units + 64 < cLine) : OpR X (compareOp .Gt) (rOp X.K (rCm (cmpD .gt))) := by
  intro pins s σ H x y v u Q I rx ry h
  obtain ⟨F, a, b, d, sF, ha, hb, e, q⟩ := h
  obtain ⟨k, e1, e2⟩ := bind_inv e
  have e2 := okInj e2
  subst e2
  have e1 : gtD a b = .ok k := e1
  match a, b, e1, ha, hb with
  | .tuple xs, .tuple ys, e1, ha, hb =>
    obtain ⟨g, e1⟩ := guard_ok e1
    have e1 := okInj e1
    subst e1
    rw [Bool.and_eq_true] at g
    obtain ⟨as, r1⟩ := Dp.reads I (.tuple xs) x v (dqDp (.tuple xs) x (ha.mono sF).dp) rx
    obtain ⟨bs, r2⟩ := Dp.reads I (.tuple ys) y u (dqDp (.tuple ys) y (hb.mono sF).dp) ry
    have g2 := of_decide_eq_true g.2
    exact PySem.W.gt_data r1 r2 g.1 (by intro z; cases z) (by omega) ⟨.bl _, H, I, rfl, q _ _ _ (Stp.refl sF) (.bl _)⟩
  | .int i, .int j, e1, ha, hb =>
    have e1 : Rs.ok (decide (j < i)) = .ok k := e1
    have e1 := okInj e1
    subst e1
    exact op_gt pins s σ H x y v u Q I rx ry ⟨i, j, ha.unint, hb.unint, q _ _ _ (Stp.refl sF) (.bl _)⟩
theorem or_eq (hu : X.A.units + 64 < cLine) : OpR X (compareOp .Eq) (rOp X.K (rCm eqD)) := by
  intro pins s σ H x y v u Q I rx ry h
  obtain ⟨F, a, b, d, sF, ha, hb, e, q⟩ := h
  obtain ⟨k, e1, e2⟩ := bind_inv e
  have e2 := okInj e2
  subst e2
  obtain ⟨g, e1⟩ := guard_ok e1
  have e1 := okInj e1
  subst e1
  obtain ⟨as, r1⟩ := Dp.reads I a x v (dqDp a x (ha.mono sF).dp) rx
  obtain ⟨bs, r2⟩ := Dp.reads I b y u (dqDp b y (hb.mono sF).dp) ry
  have g := of_decide_eq_true g
  exact SeqAt.compareEq_reads r1 r2 ha.ok hb.ok (by omega) ⟨.bl _, H, I, rfl, q _ _ _ (Stp.refl sF) (.bl _)⟩
theorem or_ne (hu : X.A.units + 64 < cLine) : OpR X (compareOp .NotEq) (rOp X.K (rCm (cmpD .ne))) := by
  intro pins s σ H x y v u Q I rx ry h
  obtain ⟨F, a, b, d, sF, ha, hb, e, q⟩ := h
  obtain ⟨k, e1, e2⟩ := bind_inv e
  have e2 := okInj e2
  subst e2
  obtain ⟨k', e0, e3⟩ := bind_inv e1
  have e3 := okInj e3
  subst e3
  obtain ⟨g, e4⟩ := guard_ok e0
  have e4 := okInj e4
  subst e4
  obtain ⟨as, r1⟩ := Dp.reads I a x v (dqDp a x (ha.mono sF).dp) rx
  obtain ⟨bs, r2⟩ := Dp.reads I b y u (dqDp b y (hb.mono sF).dp) ry
  have g := of_decide_eq_true g
  exact SeqAt.compareNe_reads r1 r2 ha.ok hb.ok (by omega) ⟨.bl _, H, I, rfl, q _ _ _ (Stp.refl sF) (.bl _)⟩
theorem one_sign {x : Str} {c : Nat} (h : x.cps.toList = [c]) : x = ⟨#[c]⟩ := by
  obtain ⟨⟨l⟩⟩ := x
  have h' : l = [c] := h
  subst h'
  rfl
theorem or_in (hu : X.A.units + 66 < cLine) : OpR X (compareOp .In) (rOp X.K (rCm inD)) := by
  intro pins s σ H x y v u Q I rx ry h
  obtain ⟨F, a, b, d, sF, ha, hb, e, q⟩ := h
  obtain ⟨k, e1, e2⟩ := bind_inv e
  have e2 := okInj e2
  subst e2
  match b, e1, hb with
  | .list ds, e1, hb =>
    obtain ⟨g, e1⟩ := guard_ok e1
    have e1 := okInj e1
    subst e1
    obtain ⟨as, r1⟩ := Dp.reads I a x v (dqDp a x (ha.mono sF).dp) rx
    obtain ⟨bs, r2⟩ := Dp.reads I (.list ds) y u (dqDp _ y (hb.mono sF).dp) ry
    have g := of_decide_eq_true g
    exact SeqAt.in_list_reads r2 r1 hb.ok ha.ok (by omega) ⟨.bl _, H, I, rfl, q _ _ _ (Stp.refl sF) (.bl _)⟩
  | .tuple ds, e1, hb =>
    obtain ⟨g, e1⟩ := guard_ok e1
    have e1 := okInj e1
    subst e1
    obtain ⟨as, r1⟩ := Dp.reads I a x v (dqDp a x (ha.mono sF).dp) rx
    obtain ⟨bs, r2⟩ := Dp.reads I (.tuple ds) y u (dqDp _ y (hb.mono sF).dp) ry
    have g := of_decide_eq_true g
    exact SeqAt.in_tuple_reads r2 r1 hb.ok ha.ok (by omega) ⟨.bl _, H, I, rfl, q _ _ _ (Stp.refl sF) (.bl _)⟩
  | .str z, e1, hb =>
    match a, e1, ha with
    | .str t, e1, ha =>
      have e1 : (match t.cps.toList with | [c] => Rs.ok (decide (c ∈ z.cps.toList)) | _ => .bad) = .ok k := e1
      split at e1
      · rename_i c hc
        have e1 := okInj e1
        subst e1
        have ex : x = .str ⟨#[c]⟩ := by rw [ha.unstr.1, one_sign hc]
        exact op_in_sign pins s σ H x y v u Q I rx ry ⟨c, z, ex, hb.unstr.1, q _ _ _ (Stp.refl sF) (.bl _)⟩
      · cases e1
theorem or_notin (hu : X.A.units + 66 < cLine) : OpR X (compareOp .NotIn) (rOp X.K (rCm (cmpD .notin))) := by
  intro pins s σ H x y v u Q I rx ry h
  obtain ⟨F, a, b, d, sF, ha, hb, e, q⟩ := h
  obtain ⟨k', e1, e2⟩ := bind_inv e
  have e2 := okInj e2
  subst e2
  obtain ⟨k, e0, e3⟩ := bind_inv e1
  clear e1
  have e3 := okInj e3
  subst e3
  match b, e0, hb with
  | .list ds, e1, hb =>
    obtain ⟨g, e1⟩ := guard_ok e1
    have e1 := okInj e1
    subst e1
    obtain ⟨as, r1⟩ := Dp.reads I a x v (dqDp a x (ha.mono sF).dp) rx
    obtain ⟨bs, r2⟩ := Dp.reads I (.list ds) y u (dqDp _ y (hb.mono sF).dp) ry
    have g := of_decide_eq_true g
    exact SeqAt.notIn_list_reads r2 r1 hb.ok ha.ok (by omega) ⟨.bl _, H, I, rfl, q _ _ _ (Stp.refl sF) (.bl _)⟩
  | .tuple ds, e1, hb =>
    obtain ⟨g, e1⟩ := guard_ok e1
    have e1 := okInj e1
    subst e1
    obtain ⟨as, r1⟩ := Dp.reads I a x v (dqDp a x (ha.mono sF).dp) rx
    obtain ⟨bs, r2⟩ := Dp.reads I (.tuple ds) y u (dqDp _ y (hb.mono sF).dp) ry
    have g := of_decide_eq_true g
    exact SeqAt.notIn_tuple_reads r2 r1 hb.ok ha.ok (by omega) ⟨.bl _, H, I, rfl, q _ _ _ (Stp.refl sF) (.bl _)⟩
  | .str z, e1, hb =>
    match a, e1, ha with
    | .str t, e1, ha =>
      have e1 : (match t.cps.toList with | [c] => Rs.ok (decide (c ∈ z.cps.toList)) | _ => .bad) = .ok k := e1
      split at e1
      · rename_i c hc
        have e1 := okInj e1
        subst e1
        have ex : x = .str ⟨#[c]⟩ := by rw [ha.unstr.1, one_sign hc]
        exact op_notIn_sign pins s σ H x y v u Q I rx ry ⟨c, z, ex, hb.unstr.1, q _ _ _ (Stp.refl sF) (.bl _)⟩
      · cases e1
theorem or_cmp (hu : X.A.units + 66 < cLine) : ∀ op : Cop, OpR X (compareOp (copO op)) (rOp X.K (rCm (cmpD op)))
  | .eq => or_eq (by omega)
  | .ne => or_ne (by omega)
  | .lt => or_cmpI op_lt
  | .le => or_cmpI op_le
  | .gt => or_gt (by omega)
  | .ge => or_cmpI op_ge
  | .isin => or_in hu
  | .notin => or_notin hu
/-- x is None, True, False -/
theorem is_rel {F : Hp} {x : V} {a : D} (ha : DV X.K F x a) : (decide (x = V.non)) = (match a with | .none => true | _ => false) := by
  obtain ⟨ha, _⟩ := ha
  cases ha <;> rfl
end
end Pu
/-! ### readings of expressions -/
namespace Pu
open PySem PySem.Spec PyProof.Rows L2

def Pg {α β : Type} (mg : Str → Option Value) (W : WX) (rel : Hp → β → α → Prop) (r : Rs α) (σ : L2.St) (F H : Hp) (Q : β → Hp → Prop) : Prop :=
  match r with
  | .ok d => ∀ v F' H', Stp F H F' H' → rel F' v d → Q v H'
  | .exc c => ∀ A F' H', mg c = some (.ref A) → Stp F H F' H' → W (.ref A) none σ H'
  | .bad => False
section
variable {α β γ δ : Type} {mg : Str → Option Value} {W : WX} {σ : L2.St} {F H F' H' : Hp}
theorem Pg.step {rel : Hp → β → α → Prop} {r : Rs α} {Q : β → Hp → Prop} (h : Pg mg W rel r σ F H Q) (st : Stp F H F' H') : Pg mg W rel r σ F' H' Q := by
  cases r with
  | ok d => exact fun v F2 H2 s e => h v F2 H2 (st.trans s) e
  | exc c => exact fun A F2 H2 m s => h A F2 H2 m (st.trans s)
  | bad => exact h
theorem pg_of {rel : Hp → β → α → Prop} {rel2 : Hp → δ → γ → Prop} {r : Rs α} {k : α → Rs γ} {Q : δ → Hp → Prop} {Q' : β → Hp → Prop} (h : Pg mg W rel2 (r.bind k) σ F H Q)
    (hk : ∀ d v F' H', r = .ok d → Stp F H F' H' → rel F' v d → Pg mg W rel2 (k d) σ F' H' Q → Q' v H') : Pg mg W rel r σ F H Q' := by
  cases r with
  | ok d => exact fun v F2 H2 s e => hk d v F2 H2 rfl s e (Pg.step h s)
  | exc c => exact h
  | bad => exact h
theorem Pg.done {rel : Hp → β → α → Prop} {d : α} {Q : β → Hp → Prop} (h : Pg mg W rel (.ok d) σ F H Q) {v : β} (st : Stp F H F' H') (e : rel F' v d) : Q v H' := h v F' H' st e
theorem Pg.ofOk {rel : Hp → β → α → Prop} {r : Rs α} {Q : β → Hp → Prop} (h : Pg mg W rel r σ F H Q) (hr : ∀ c, r ≠ .exc c) : ∃ d, r = .ok d ∧ ∀ v F' H', Stp F H F' H' → rel F' v d → Q v H' := by
  cases r with
  | ok d => exact ⟨d, rfl, h⟩
  | exc c => exact absurd rfl (hr c)
  | bad => exact h.elim
end

def sE (X : Cx) (W : WX) (C : Nat → List D → Rs D) (m : E) : TE := fun σ H Q => ∃ F0 B ρ F, Rel X.kk F0 B ρ σ F H ∧ Pg X.mg W (DV X.K) (ev C m ρ) σ F H Q
def sA (X : Cx) (W : WX) (C : Nat → List D → Rs D) (es : List E) : TA := fun σ H Q => ∃ F0 B ρ F, Rel X.kk F0 B ρ σ F H ∧ Pg X.mg W (DVs X.K) (evs C es ρ) σ F H Q
def sT (X : Cx) (W : WX) (C : Nat → List D → Rs D) (m : E) : TT := fun σ H Q => ∃ F0 B ρ F, Rel X.kk F0 B ρ σ F H ∧ Pg X.mg W (fun _ b k => b = k) ((ev C m ρ).bind truth) σ F H Q
/-- a list just made -/
def NewL (K : PySem.W.Frag) (F H : Hp) (v : V) (H' : Hp) (ds : List D) : Prop := ∃ a xs F', v = .ref a ∧ Stp F H F' H' ∧ F' a = none ∧ H a = none ∧ H' a = some (.lst xs) ∧ DVs K F' xs ds
def Pl (mg : Str → Option Value) (W : WX) (K : PySem.W.Frag) (r : Rs D) (σ : L2.St) (F H : Hp) (Q : VK) : Prop :=
  match r with
  | .ok (.list ds) => ∀ v H', NewL K F H v H' ds → Q v H'
  | .ok _ => False
  | .exc c => ∀ A F' H', mg c = some (.ref A) → Stp F H F' H' → W (.ref A) none σ H'
  | .bad => False
def sL (X : Cx) (W : WX) (C : Nat → List D → Rs D) (m : E) : TE := fun σ H Q => ∃ F0 B ρ F, Rel X.kk F0 B ρ σ F H ∧ Pl X.mg W X.K (ev C m ρ) σ F H Q
theorem NewL.val {K : PySem.W.Frag} {F H H' : Hp} {v : V} {ds : List D} (h : NewL K F H v H' ds) : ∃ F', Stp F H F' H' ∧ DV K F' v (.list ds) := by
  obtain ⟨a, xs, F', rfl, st, h1, h2, h3, h4⟩ := h
  refine ⟨upd F' a (.lst xs), ⟨st.sH, st.sF.trans (sameUpd h1), fun b o e => ?_, fun b o e => ?_⟩, .newLst h4 h1⟩
  · by_cases hb : b = a
    · subst hb; rw [upd_same] at e; rw [h3]; exact e
    · rw [upd_ne hb] at e; exact st.sub b o e
  · by_cases hb : b = a
    · subst hb; exact .inr h2
    · rw [upd_ne hb] at e; exact st.new b o e
theorem peImp {X : Cx} {e : Expr} {t t' : TE} (h : PE X e t) (i : ∀ σ H Q, t' σ H Q → t σ H Q) : PE X e t' := ⟨fun pins s σ H Q I q => h.run pins s σ H Q I (i σ H Q q)⟩
theorem paImp {X : Cx} {e : List Expr} {t t' : TA} (h : PA X e t) (i : ∀ σ H Q, t' σ H Q → t σ H Q) : PA X e t' := ⟨fun pos pins s σ H Q I q => h.run pos pins s σ H Q I (i σ H Q q)⟩
theorem ptImp {X : Cx} {e : Expr} {t t' : TT} (h : PT X e t) (i : ∀ σ H Q, t' σ H Q → t σ H Q) : PT X e t' := ⟨fun pins s σ H Q I q => h.run pins s σ H Q I (i σ H Q q)⟩
theorem pwImp {X : Cx} {e : Expr} {t t' : TT} (h : PW X e t) (i : ∀ σ H Q, t' σ H Q → t σ H Q) : PW X e t' := ⟨fun wh pins s σ H Q I q => h.run wh pins s σ H Q I (i σ H Q q)⟩
section
variable {X : Cx} {W : WX} {C : Nat → List D → Rs D} {a b c : E} {x y z : Expr} {pos : Pos}

/-- the form of a use: a's reading from that of what a stands in -/
theorem sE_of {γ δ : Type} {rel2 : Hp → δ → γ → Prop} {k : D → Rs γ} {Q : δ → Hp → Prop} {Q' : VK} {m : E} {σ : L2.St} {F0 B F H : Hp} {ρ : En} (R : Rel X.kk F0 B ρ σ F H) (h : Pg X.mg W rel2 ((ev C m ρ).bind k) σ F H Q)
    (hk : ∀ d v F' H', ev C m ρ = .ok d → Rel X.kk F0 B ρ σ F' H' → Stp F H F' H' → DV X.K F' v d → Pg X.mg W rel2 (k d) σ F' H' Q → Q' v H') : sE X W C m σ H Q' :=
  ⟨F0, B, ρ, F, R, pg_of h fun d v F' H' e st dv p => hk d v F' H' e (R.step st) st dv p⟩
theorem sA_of {γ δ : Type} {rel2 : Hp → δ → γ → Prop} {k : List D → Rs γ} {Q : δ → Hp → Prop} {Q' : List V → Hp → Prop} {es : List E} {σ : L2.St} {F0 B F H : Hp} {ρ : En} (R : Rel X.kk F0 B ρ σ F H) (h : Pg X.mg W rel2 ((evs C es ρ).bind k) σ F H Q)
    (hk : ∀ d v F' H', evs C es ρ = .ok d → Rel X.kk F0 B ρ σ F' H' → Stp F H F' H' → DVs X.K F' v d → Pg X.mg W rel2 (k d) σ F' H' Q → Q' v H') : sA X W C es σ H Q' :=
  ⟨F0, B, ρ, F, R, pg_of h fun d v F' H' e st dv p => hk d v F' H' e (R.step st) st dv p⟩
theorem sT_of {γ δ : Type} {rel2 : Hp → δ → γ → Prop} {k : Bool → Rs γ} {Q : δ → Hp → Prop} {Q' : Bool → Hp → Prop} {m : E} {σ : L2.St} {F0 B F H : Hp} {ρ : En} (R : Rel X.kk F0 B ρ σ F H) (h : Pg X.mg W rel2 (((ev C m ρ).bind truth).bind k) σ F H Q)
    (hk : ∀ d F' H', (ev C m ρ).bind truth = .ok d → Rel X.kk F0 B ρ σ F' H' → Stp F H F' H' → Pg X.mg W rel2 (k d) σ F' H' Q → Q' d H') : sT X W C m σ H Q' :=
  ⟨F0, B, ρ, F, R, pg_of h fun d v F' H' e st dv p => by
    have dv : v = d := dv
    subst dv
    exact hk v F' H' e (R.step st) st p⟩
theorem bind_assoc {α β γ : Type} (r : Rs α) (f : α → Rs β) (g : β → Rs γ) : (r.bind f).bind g = r.bind fun a => (f a).bind g := by cases r <;> rfl
theorem sE_sL (h : PE X x (sL X W C a)) (hl : ∀ ρ d, ev C a ρ = .ok d → ∃ ds, d = .list ds) : PE X x (sE X W C a) := peImp h fun σ H Q ⟨F0, B, ρ, F, R, p⟩ => by
  refine ⟨F0, B, ρ, F, R, ?_⟩
  cases e : ev C a ρ with
  | ok d =>
    rw [e] at p
    obtain ⟨ds, rfl⟩ := hl ρ d e
    intro v H' nl
    obtain ⟨F', st, dv⟩ := nl.val
    exact p v F' H' st dv
  | exc c => rw [e] at p; exact p
  | bad => rw [e] at p; exact p

theorem se_var {i : Nat} {nm : Str} (hN : X.N[i]? = some nm) (hv : Vis X.env.scope nm) (hd : (nm == ("__debug__" : Str)) = false) (hcd : (nm == ("__classdict__" : Str)) = false) : PE X (.Name nm pos) (sE X W C (.var i)) :=
  peImp (pe_var hN hv hd hcd) fun σ H Q ⟨F0, B, ρ, F, R, p⟩ => by
    rw [ev] at p
    split at p
    · rename_i d h
      obtain ⟨v, e1, e2⟩ := R.get h
      exact ⟨v, e1, p.done (Stp.refl R.st.sub) e2⟩
    · exact p.elim
theorem se_peek (h : PE X x (sE X W C a)) : PE X x (sE X W C (.peek a)) := peImp h fun σ H Q ⟨F0, B, ρ, F, R, p⟩ => by
  rw [ev] at p
  obtain ⟨F1, R1⟩ := R.look
  refine ⟨F0, B, ρ.map thaw, F1, R1, ?_⟩
  cases e : ev C a (ρ.map thaw) with
  | ok d =>
    rw [e] at p
    intro v F' H' st dv
    cases g : scalar d with
    | true =>
      rw [Rs.bind_ok, g] at p
      exact p.done (st.less R.st.sub) (dv.scal g)
    | false =>
      rw [Rs.bind_ok, g] at p
      exact p.elim
  | exc c =>
    rw [e] at p
    exact fun A F' H' m st => p A F H' m (st.less R.st.sub)
  | bad => rw [e] at p; exact p
theorem se_cst {k : Const} {j : Nat} {d : D} {t : V} (h : PE X (.Constant k j pos) (tC t)) (hd : ∀ F, DV X.K F t d) : PE X (.Constant k j pos) (sE X W C (.cst d)) :=
  peImp h fun σ H Q ⟨F0, B, ρ, F, R, p⟩ => by
    rw [ev] at p
    exact p.done (Stp.refl R.st.sub) (hd F)
theorem se_tC {m : E} {d : D} {t : V} (h : PE X x (tC t)) (hd : ∀ F, DV X.K F t d) (hm : ∀ ρ, ev C m ρ = .ok d) : PE X x (sE X W C m) :=
  peImp h fun σ H Q ⟨F0, B, ρ, F, R, p⟩ => by
    rw [hm] at p
    exact p.done (Stp.refl R.st.sub) (hd F)
/-! arguments -/
theorem sa_nil : PA X [] (sA X W C []) := paImp pa_nil fun σ H Q ⟨F0, B, ρ, F, R, p⟩ => by
  rw [evs] at p
  exact p.done (Stp.refl R.st.sub) .nil
theorem sa_cons {es : List E} {xs : List Expr} (h : PE X x (sE X W C a)) (ht : PA X xs (sA X W C es)) (hs : starEach (x :: xs) X.env = (false, eval x X.env) :: starEach xs X.env) : PA X (x :: xs) (sA X W C (a :: es)) :=
  paImp (pa_cons h ht hs) fun σ H Q ⟨F0, B, ρ, F, R, p⟩ => by
    rw [evs] at p
    refine sE_of R p fun d v F1 H1 _ R1 st1 dv1 p1 => ?_
    refine sA_of R1 p1 fun ds vs F2 H2 _ R2 st2 dv2 p2 => ?_
    exact p2.done (Stp.refl R2.st.sub) (.cons (dv1.mono st2.sF) dv2)
theorem se_tup {es : List E} {xs : List Expr} {k : Nat} (h : PA X xs (sA X W C es)) : PE X (.Tuple xs k pos) (sE X W C (.tup es)) :=
  peImp (pe_tup h) fun σ H Q ⟨F0, B, ρ, F, R, p⟩ => by
    rw [ev] at p
    refine sA_of R p fun ds vs F1 H1 _ R1 st1 dv1 p1 => ?_
    cases g : decide (ds.length ≤ line) with
    | false => rw [g] at p1; exact p1.elim
    | true =>
      rw [g] at p1
      exact ⟨by rw [dv1.length, sizeLine_eq]; exact of_decide_eq_true g, fun q hq => p1.done (Stp.laid R1.st.sub hq _) (.newTup dv1 (R1.st.sub.free hq))⟩
theorem sl_lst {es : List E} {xs : List Expr} (h : PA X xs (sA X W C es)) : PE X (.List xs pos) (sL X W C (.lst es)) :=
  peImp (pe_lst h) fun σ H Q ⟨F0, B, ρ, F, R, p⟩ => by
    rw [ev] at p
    have p' : Pg X.mg W (fun (_ : Hp) (v : V × Hp) (ds : List D) => ∃ F1 H1, Stp F H F1 H1 ∧ NewL X.K F1 H1 v.1 v.2 ds) ((evs C es ρ).bind fun ds => .guard (decide (ds.length ≤ line)) (.ok ds)) σ F H (fun v _ => Q v.1 v.2) := by
      cases e : evs C es ρ with
      | ok ds =>
        rw [e] at p
        rw [Rs.bind_ok] at p ⊢
        cases g : decide (ds.length ≤ line) with
        | false => rw [g] at p; exact p.elim
        | true =>
          rw [g] at p
          intro v F' H' _ ⟨F1, H1, st, a, vs, F2, e1, st2, h1, h2, h3, h4⟩
          exact p v.1 v.2 ⟨a, vs, F2, e1, st.trans st2, h1, st.sH.free h2, h3, h4⟩
      | exc c => rw [e] at p; exact p
      | bad => rw [e] at p; exact p
    refine sA_of R p' fun ds vs F1 H1 _ R1 st1 dv1 p1 => ?_
    cases g : decide (ds.length ≤ line) with
    | false => rw [g] at p1; exact p1.elim
    | true =>
      rw [g] at p1
      refine ⟨by rw [dv1.length, sizeLine_eq]; exact of_decide_eq_true g, fun q hq => ?_⟩
      have hF : F1 q = none := R1.st.sub.free hq
      exact Pg.done (v := (V.ref q, upd H1 q (.lst vs))) p1 (Stp.refl R1.st.sub) ⟨F1, H1, st1, q, vs, F1, rfl, Stp.junk R1.st.sub hq _, hF, hq, upd_same, dv1⟩
theorem lst_lists {es : List E} (ρ : En) (d : D) (h : ev C (.lst es) ρ = .ok d) : ∃ ds, d = .list ds := by
  rw [ev] at h
  obtain ⟨ds, _, h⟩ := bind_inv h
  obtain ⟨_, h⟩ := guard_ok h
  exact ⟨ds, (okInj h).symm⟩
/-! operators -/
theorem opD {f : D → D → Rs D} {σ : L2.St} {F H : Hp} {Q : VK} {d1 d2 : D} {v1 v2 : V} (sF : Same F H) (h1 : DV X.K F v1 d1) (h2 : DV X.K F v2 d2) (nx : ∀ c, f d1 d2 ≠ .exc c) (p : Pg X.mg W (DV X.K) (f d1 d2) σ F H Q) : rOp X.K f v1 v2 H Q := by
  obtain ⟨d, e, p⟩ := p.ofOk nx
  exact ⟨F, d1, d2, d, sF, h1, h2, e, p⟩
theorem guard_nx {α : Type} {b : Bool} {r : Rs α} (h : ∀ c, r ≠ .exc c) : ∀ c, Rs.guard b r ≠ .exc c := by
  intro c
  cases b with
  | true => exact h c
  | false => exact fun z => nomatch z
theorem okNx {α : Type} {a : α} : ∀ c, (Rs.ok a : Rs α) ≠ .exc c := fun _ z => nomatch z
theorem badNx {α : Type} : ∀ c, (Rs.bad : Rs α) ≠ .exc c := fun _ z => nomatch z
theorem bindNx {α β : Type} {r : Rs α} {f : α → Rs β} (h : ∀ c, r ≠ .exc c) (h' : ∀ a c, f a ≠ .exc c) : ∀ c, r.bind f ≠ .exc c := by
  intro c
  cases r with
  | ok a => exact h' a c
  | exc e => exact absurd rfl (h e)
  | bad => exact fun z => nomatch z
theorem addNx : ∀ (x y : D) (c : Str), addD x y ≠ .exc c := by
  intro x y c
  unfold addD
  split <;> first | exact okNx c | exact guard_nx okNx c | exact badNx c
theorem subNx : ∀ (x y : D) (c : Str), subD x y ≠ .exc c := by
  intro x y c
  unfold subD
  split <;> first | exact okNx c | exact badNx c
theorem mulNx : ∀ (x y : D) (c : Str), mulD x y ≠ .exc c := by
  intro x y c
  unfold mulD
  split <;> first | exact guard_nx okNx c | exact badNx c
theorem modNx : ∀ (x y : D) (c : Str), modD x y ≠ .exc c := by
  intro x y c
  unfold modD
  split <;> first | exact guard_nx okNx c | exact badNx c
theorem inNx : ∀ (x y : D) (c : Str), inD x y ≠ .exc c := by
  intro x y c
  unfold inD
  split
  · exact guard_nx okNx c
  · exact guard_nx okNx c
  · split
    · split <;> first | exact okNx c | exact badNx c
    · exact badNx c
  · exact badNx c
theorem cmpINx {p : Int → Int → Bool} : ∀ (x y : D) (c : Str), cmpI p x y ≠ .exc c := by
  intro x y c
  unfold cmpI
  split <;> first | exact okNx c | exact badNx c
theorem gtNx : ∀ (x y : D) (c : Str), gtD x y ≠ .exc c := by
  intro x y c
  unfold gtD
  split
  · exact guard_nx okNx c
  · exact cmpINx x y c
theorem eqNx : ∀ (x y : D) (c : Str), eqD x y ≠ .exc c := fun x y c => guard_nx okNx c
theorem cmpNx (op : Cop) : ∀ (x y : D) (c : Str), cmpD op x y ≠ .exc c := by
  intro x y c
  cases op with
  | eq => exact eqNx x y c
  | ne => exact bindNx (eqNx x y) (fun _ => okNx) c
  | lt => exact cmpINx x y c
  | le => exact cmpINx x y c
  | gt => exact gtNx x y c
  | ge => exact cmpINx x y c
  | isin => exact inNx x y c
  | notin => exact bindNx (inNx x y) (fun _ => okNx) c
theorem rcmNx (op : Cop) (x y : D) : ∀ c, rCm (cmpD op) x y ≠ .exc c := bindNx (cmpNx op x y) fun _ => okNx
theorem se_bin {op : Bop} {o : Operator} (ho : OpR X (binaryOp o) (rOp X.K (binD op))) (ha : PE X x (sE X W C a)) (hb : PE X y (sE X W C b)) : PE X (.BinOp x o y pos) (sE X W C (.bin op a b)) :=
  peImp (pe_op ho ha hb) fun σ H Q ⟨F0, B, ρ, F, R, p⟩ => by
    rw [ev] at p
    refine sE_of R p fun d1 v1 F1 H1 _ R1 st1 dv1 p1 => ?_
    refine sE_of R1 p1 fun d2 v2 F2 H2 _ R2 st2 dv2 p2 => ?_
    refine opD R2.st.sub (dv1.mono st2.sF) dv2 (fun c => ?_) p2
    cases op with
    | add => exact addNx d1 d2 c
    | sub => exact subNx d1 d2 c
    | mul => exact mulNx d1 d2 c
    | mod => exact modNx d1 d2 c
theorem se_cmp (hu : X.A.units + 66 < cLine) {op : Cop} (ha : PE X x (sE X W C a)) (hb : PE X y (sE X W C b)) (hm : behindInMarks (copO op) y = false) : PE X (.Compare x [copO op] [y] pos) (sE X W C (.cmp op a b)) :=
  peImp (pe_cmpR (or_cmp hu op) ha hb hm) fun σ H Q ⟨F0, B, ρ, F, R, p⟩ => by
    rw [ev] at p
    refine sE_of R p fun d1 v1 F1 H1 _ R1 st1 dv1 p1 => ?_
    refine sE_of R1 p1 fun d2 v2 F2 H2 _ R2 st2 dv2 p2 => ?_
    exact opD (f := rCm (cmpD op)) R2.st.sub (dv1.mono st2.sF) dv2 (rcmNx op d1 d2) p2
theorem DV.isBl {F : Hp} {v : V} {d : D} {k : Bool} (h : DV X.K F v d) (e : d = .bool k) : v = .bl k := by subst e; exact h.unbl
theorem st_cmp (hu : X.A.units + 66 < cLine) {op : Cop} (ha : PE X x (sE X W C a)) (hb : PE X y (sE X W C b)) (hm : behindInMarks (copO op) y = false) : PT X (.Compare x [copO op] [y] pos) (sT X W C (.cmp op a b)) :=
  ptImp (pt_cmpR (or_cmp hu op) ha hb hm) fun σ H Q ⟨F0, B, ρ, F, R, p⟩ => by
    rw [ev] at p
    simp only [bind_assoc] at p
    refine sE_of R p fun d1 v1 F1 H1 _ R1 st1 dv1 p1 => ?_
    refine sE_of R1 p1 fun d2 v2 F2 H2 _ R2 st2 dv2 p2 => ?_
    cases e : cmpD op d1 d2 with
    | ok k =>
      rw [e] at p2
      refine ⟨F2, d1, d2, .bool k, R2.st.sub, dv1.mono st2.sF, dv2, by show rCm (cmpD op) d1 d2 = _; unfold rCm; rw [e]; rfl, fun v F' H' st dv => ⟨k, dv.unbl, ?_⟩⟩
      exact p2.done st rfl
    | exc c => exact absurd e (cmpNx op d1 d2 c)
    | bad => rw [e] at p2; exact p2.elim
theorem se_chn (hu : X.A.units + 66 < cLine) {op op' : Cop} (ha : PE X x (sE X W C a)) (hb : PE X y (sE X W C b)) (hc : PE X z (sE X W C c)) (hm : lastMarks [copO op, copO op'] [y, z] = false) :
    PE X (.Compare x [copO op, copO op'] [y, z] pos) (sE X W C (.chn op op' a b c)) :=
  peImp (pe_chain (or_cmp hu op) (or_cmp hu op') ha hb hc hm) fun σ H Q ⟨F0, B, ρ, F, R, p⟩ => by
    rw [ev] at p
    refine sE_of R p fun d1 v1 F1 H1 _ R1 st1 dv1 p1 => ?_
    refine sE_of R1 p1 fun d2 v2 F2 H2 _ R2 st2 dv2 p2 => ?_
    cases e : cmpD op d1 d2 with
    | ok k =>
      rw [e, Rs.bind_ok] at p2
      refine ⟨F2, d1, d2, .bool k, R2.st.sub, dv1.mono st2.sF, dv2, by show rCm (cmpD op) d1 d2 = _; unfold rCm; rw [e]; rfl, fun v F' H' st dv => ⟨k, dv.unbl, ?_⟩⟩
      cases k with
      | true =>
        rw [if_pos rfl] at p2 ⊢
        refine sE_of (R2.step st) (p2.step st) fun d3 v3 F3 H3 _ R3 st3 dv3 p3 => ?_
        exact opD (f := rCm (cmpD op')) R3.st.sub (dv2.mono (st.sF.trans st3.sF)) dv3 (rcmNx op' d2 d3) p3
      | false =>
        rw [if_neg Bool.false_ne_true] at p2 ⊢
        exact p2.done st (.bl false)
    | exc c => exact absurd e (cmpNx op d1 d2 c)
    | bad => rw [e] at p2; exact p2.elim
theorem st_chn (hu : X.A.units + 66 < cLine) {op op' : Cop} (ha : PE X x (sE X W C a)) (hb : PE X y (sE X W C b)) (hc : PE X z (sE X W C c)) (hm : lastMarks [copO op, copO op'] [y, z] = false) :
    PT X (.Compare x [copO op, copO op'] [y, z] pos) (sT X W C (.chn op op' a b c)) :=
  ptImp (pt_chain (or_cmp hu op) (or_cmp hu op') ha hb hc hm) fun σ H Q ⟨F0, B, ρ, F, R, p⟩ => by
    rw [ev] at p
    simp only [bind_assoc] at p
    refine sE_of R p fun d1 v1 F1 H1 _ R1 st1 dv1 p1 => ?_
    refine sE_of R1 p1 fun d2 v2 F2 H2 _ R2 st2 dv2 p2 => ?_
    cases e : cmpD op d1 d2 with
    | ok k =>
      rw [e, Rs.bind_ok] at p2
      refine ⟨F2, d1, d2, .bool k, R2.st.sub, dv1.mono st2.sF, dv2, by show rCm (cmpD op) d1 d2 = _; unfold rCm; rw [e]; rfl, fun v F' H' st dv => ⟨k, dv.unbl, ?_⟩⟩
      cases k with
      | true =>
        rw [if_pos rfl] at p2 ⊢
        rw [bind_assoc] at p2
        refine sE_of (R2.step st) (p2.step st) fun d3 v3 F3 H3 _ R3 st3 dv3 p3 => ?_
        cases e' : cmpD op' d2 d3 with
        | ok k' =>
          rw [e'] at p3
          exact ⟨F3, d2, d3, .bool k', R3.st.sub, dv2.mono (st.sF.trans st3.sF), dv3, by show rCm (cmpD op') d2 d3 = _; unfold rCm; rw [e']; rfl, fun v' F4 H4 st4 dv4 => ⟨k', dv4.unbl, p3.done st4 rfl⟩⟩
        | exc c => exact absurd e' (cmpNx op' d2 d3 c)
        | bad => rw [e'] at p3; exact p3.elim
      | false =>
        rw [if_neg Bool.false_ne_true] at p2 ⊢
        exact ⟨false, rfl, p2.done st rfl⟩
    | exc c => exact absurd e (cmpNx op d1 d2 c)
    | bad => rw [e] at p2; exact p2.elim
/-! truth -/
theorem truV {F H : Hp} {v : V} {d : D} {k : Bool} (sF : Same F H) (h : DV X.K F v d) (e : truth d = .ok k) : TruV X.K v H k := by
  match d, h, e with
  | .none, h, e => rw [h.unnon]; exact (okInj e).symm
  | .bool b, h, e => rw [h.unbl]; exact (okInj e).symm
  | .int i, h, e => rw [h.unint]; exact (okInj e).symm
  | .list ds, h, e =>
    obtain ⟨p, vs, rfl, h1, h2⟩ := h.unlst
    refine .inl ⟨vs, .of (sF _ _ h1), ?_⟩
    rw [← okInj e]
    have := h2.length
    cases vs <;> cases ds <;> first | rfl | cases this
  | .tuple ds, h, e =>
    obtain ⟨p, vs, rfl, h1, h2⟩ := h.untup
    refine .inr (.inl ⟨vs, sameT sF h1, ?_⟩)
    rw [← okInj e]
    have := h2.length
    cases vs <;> cases ds <;> first | rfl | cases this
theorem truthNx (d : D) : ∀ c, truth d ≠ .exc c := by
  intro c
  unfold truth
  split <;> first | exact okNx c | exact badNx c
theorem st_plain (h : PE X x (sE X W C a)) (he : ∀ whole, isTrue x X.env whole = (do let v ← whole; standAt x.pos; holding [v] (truthy v))) : PT X x (sT X W C a) :=
  ptImp (pt_truth h he) fun σ H Q ⟨F0, B, ρ, F, R, p⟩ => by
    refine sE_of R p fun d v F1 H1 _ R1 st1 dv1 p1 => ?_
    cases e : truth d with
    | ok k => rw [e] at p1; exact ⟨k, truV R1.st.sub dv1 e, p1.done (Stp.refl R1.st.sub) rfl⟩
    | exc c => exact absurd e (truthNx d c)
    | bad => rw [e] at p1; exact p1.elim
theorem se_not (h : PE X x (sE X W C a)) : PE X (.UnaryOp .Not x pos) (sE X W C (.not a)) :=
  peImp (pe_notT h) fun σ H Q ⟨F0, B, ρ, F, R, p⟩ => by
    rw [ev] at p
    refine sE_of R p fun d v F1 H1 _ R1 st1 dv1 p1 => ?_
    cases e : truth d with
    | ok k => rw [e] at p1; exact ⟨k, truV R1.st.sub dv1 e, p1.done (Stp.refl R1.st.sub) (.bl _)⟩
    | exc c => exact absurd e (truthNx d c)
    | bad => rw [e] at p1; exact p1.elim
theorem st_not (h : PT X x (sT X W C a)) : PT X (.UnaryOp .Not x pos) (sT X W C (.not a)) :=
  ptImp (pt_not h) fun σ H Q ⟨F0, B, ρ, F, R, p⟩ => by
    rw [ev] at p
    have e : ((ev C a ρ).bind fun x => (truth x).bind fun k => Rs.ok (PyData.bool (!k))).bind truth = ((ev C a ρ).bind truth).bind fun k => .ok (!k) := by
      cases ev C a ρ with
      | ok d => show ((truth d).bind fun k => Rs.ok (PyData.bool (!k))).bind truth = (truth d).bind _; cases truth d <;> rfl
      | exc c => rfl
      | bad => rfl
    rw [e] at p
    exact sT_of R p fun k F1 H1 _ R1 st1 p1 => p1.done (Stp.refl R1.st.sub) rfl
theorem se_ite (hc : PT X z (sT X W C c)) (ha : PE X x (sE X W C a)) (hb : PE X y (sE X W C b)) : PE X (.IfExp z x y pos) (sE X W C (.ite c a b)) :=
  peImp (pe_ifExp hc ha hb) fun σ H Q ⟨F0, B, ρ, F, R, p⟩ => by
    rw [ev] at p
    have p' : Pg X.mg W (DV X.K) (((ev C c ρ).bind truth).bind fun k => if k then ev C a ρ else ev C b ρ) σ F H Q := by rw [bind_assoc]; exact p
    refine sT_of R p' fun k F1 H1 _ R1 st1 p1 => ?_
    cases k with
    | true => rw [if_pos rfl] at p1 ⊢; exact ⟨F0, B, ρ, F1, R1, p1⟩
    | false => rw [if_neg Bool.false_ne_true] at p1 ⊢; exact ⟨F0, B, ρ, F1, R1, p1⟩
theorem se_one {op : BoolOp} {m : E} (h : PE X x (sE X W C a)) (hm : ∀ ρ, ev C m ρ = ev C a ρ) : PE X (.BoolOp op [x] pos) (sE X W C m) :=
  peImp (pe_one h) fun σ H Q ⟨F0, B, ρ, F, R, p⟩ => by
    rw [hm] at p
    exact ⟨F0, B, ρ, F, R, p⟩
theorem evAnd_one (ρ : En) : ev C (.and [a]) ρ = ev C a ρ := by
  rw [ev, evAnd]
  cases ev C a ρ <;> rfl
theorem evOr_one (ρ : En) : ev C (.or [a]) ρ = ev C a ρ := by
  rw [ev, evOr]
  cases ev C a ρ <;> rfl
theorem evAnd_more {es : List E} (ρ : En) : ev C (.and (a :: b :: es)) ρ = (ev C a ρ).bind fun d => (truth d).bind fun k => if k then ev C (.and (b :: es)) ρ else .ok d := by
  rw [ev, evAnd]
  simp only [ev]
theorem evOr_more {es : List E} (ρ : En) : ev C (.or (a :: b :: es)) ρ = (ev C a ρ).bind fun d => (truth d).bind fun k => if k then .ok d else ev C (.or (b :: es)) ρ := by
  rw [ev, evOr]
  simp only [ev]
theorem se_and {es : List E} {xs : List Expr} (h : PE X x (sE X W C a)) (ht : PE X (.BoolOp .And (y :: xs) pos) (sE X W C (.and (b :: es)))) : PE X (.BoolOp .And (x :: y :: xs) pos) (sE X W C (.and (a :: b :: es))) :=
  peImp (pe_andT h ht) fun σ H Q ⟨F0, B, ρ, F, R, p⟩ => by
    rw [evAnd_more] at p
    refine sE_of R p fun d v F1 H1 _ R1 st1 dv1 p1 => ?_
    cases e : truth d with
    | ok k =>
      rw [e, Rs.bind_ok] at p1
      refine ⟨k, truV R1.st.sub dv1 e, ?_⟩
      cases k with
      | true => rw [if_pos rfl] at p1 ⊢; exact ⟨F0, B, ρ, F1, R1, p1⟩
      | false => rw [if_neg Bool.false_ne_true] at p1 ⊢; exact p1.done (Stp.refl R1.st.sub) dv1
    | exc c => exact absurd e (truthNx d c)
    | bad => rw [e] at p1; exact p1.elim
theorem se_or {es : List E} {xs : List Expr} (h : PE X x (sE X W C a)) (ht : PE X (.BoolOp .Or (y :: xs) pos) (sE X W C (.or (b :: es)))) : PE X (.BoolOp .Or (x :: y :: xs) pos) (sE X W C (.or (a :: b :: es))) :=
  peImp (pe_orT h ht) fun σ H Q ⟨F0, B, ρ, F, R, p⟩ => by
    rw [evOr_more] at p
    refine sE_of R p fun d v F1 H1 _ R1 st1 dv1 p1 => ?_
    cases e : truth d with
    | ok k =>
      rw [e, Rs.bind_ok] at p1
      refine ⟨k, truV R1.st.sub dv1 e, ?_⟩
      cases k with
      | true => rw [if_pos rfl] at p1 ⊢; exact p1.done (Stp.refl R1.st.sub) dv1
      | false => rw [if_neg Bool.false_ne_true] at p1 ⊢; exact ⟨F0, B, ρ, F1, R1, p1⟩
    | exc c => exact absurd e (truthNx d c)
    | bad => rw [e] at p1; exact p1.elim
theorem sw_and1 (h : PT X x (sT X W C a)) : PW X (.BoolOp .And [x] pos) (sT X W C (.and [a])) :=
  pwImp (pw_and1 h) fun σ H Q ⟨F0, B, ρ, F, R, p⟩ => by
    rw [evAnd_one] at p
    exact ⟨F0, B, ρ, F, R, p⟩
theorem sw_or1 (h : PT X x (sT X W C a)) : PW X (.BoolOp .Or [x] pos) (sT X W C (.or [a])) :=
  pwImp (pw_or1 h) fun σ H Q ⟨F0, B, ρ, F, R, p⟩ => by
    rw [evOr_one] at p
    exact ⟨F0, B, ρ, F, R, p⟩
theorem andT {es : List E} (ρ : En) : (ev C (.and (a :: b :: es)) ρ).bind truth = ((ev C a ρ).bind truth).bind fun k => if k then (ev C (.and (b :: es)) ρ).bind truth else .ok false := by
  rw [evAnd_more]
  cases ev C a ρ with
  | ok d =>
    show ((truth d).bind _).bind truth = (truth d).bind _
    cases e : truth d with
    | ok k =>
      cases k with
      | true => rfl
      | false => exact e
    | exc c => rfl
    | bad => rfl
  | exc c => rfl
  | bad => rfl
theorem orT {es : List E} (ρ : En) : (ev C (.or (a :: b :: es)) ρ).bind truth = ((ev C a ρ).bind truth).bind fun k => if k then .ok true else (ev C (.or (b :: es)) ρ).bind truth := by
  rw [evOr_more]
  cases ev C a ρ with
  | ok d =>
    show ((truth d).bind _).bind truth = (truth d).bind _
    cases e : truth d with
    | ok k =>
      cases k with
      | true => exact e
      | false => rfl
    | exc c => rfl
    | bad => rfl
  | exc c => rfl
  | bad => rfl
theorem sw_and {es : List E} {xs : List Expr} (h : PT X x (sT X W C a)) (ht : PW X (.BoolOp .And (y :: xs) pos) (sT X W C (.and (b :: es)))) : PW X (.BoolOp .And (x :: y :: xs) pos) (sT X W C (.and (a :: b :: es))) :=
  pwImp (pw_and h ht) fun σ H Q ⟨F0, B, ρ, F, R, p⟩ => by
    rw [andT] at p
    refine sT_of R p fun k F1 H1 _ R1 st1 p1 => ?_
    cases k with
    | true => rw [if_pos rfl] at p1 ⊢; exact ⟨F0, B, ρ, F1, R1, p1⟩
    | false => rw [if_neg Bool.false_ne_true] at p1 ⊢; exact p1.done (Stp.refl R1.st.sub) rfl
theorem sw_or {es : List E} {xs : List Expr} (h : PT X x (sT X W C a)) (ht : PW X (.BoolOp .Or (y :: xs) pos) (sT X W C (.or (b :: es)))) : PW X (.BoolOp .Or (x :: y :: xs) pos) (sT X W C (.or (a :: b :: es))) :=
  pwImp (pw_or h ht) fun σ H Q ⟨F0, B, ρ, F, R, p⟩ => by
    rw [orT] at p
    refine sT_of R p fun k F1 H1 _ R1 st1 p1 => ?_
    cases k with
    | true => rw [if_pos rfl] at p1 ⊢; exact p1.done (Stp.refl R1.st.sub) rfl
    | false => rw [if_neg Bool.false_ne_true] at p1 ⊢; exact ⟨F0, B, ρ, F1, R1, p1⟩
end
end Pu
/-! ### subscripts, calls -/
namespace Pu
open PySem PySem.Spec PyProof.Rows L2

/-! t[::-1] -/
section
variable {prog : Program} {w : World} {A : Around} {Ex : Value → Shared → Prop} {s : Shared}
theorem fmapSome {α β : Type} {f : α → Option β} {g : α → β} : ∀ {l : List α}, (∀ m ∈ l, f m = some (g m)) → l.filterMap f = l.map g
  | [], _ => rfl
  | a :: l, h => by
    rw [List.filterMap_cons, h a List.mem_cons_self, List.map_cons, fmapSome fun m hm => h m (List.mem_cons_of_mem _ hm)]
theorem backPick (its : List Value) : ((List.range its.length).filterMap fun (m : Nat) => its.toArray[(((its.length : Int) - 1) + (m : Int) * (-1)).toNat]?).toArray = its.reverse.toArray := by
  congr 1
  have e : ∀ m ∈ List.range its.length, its.toArray[(((its.length : Int) - 1) + (m : Int) * (-1)).toNat]? = some (its.getD (its.length - 1 - m) Value.none) := by
    intro m hm
    have hm := List.mem_range.mp hm
    have q : (((its.length : Int) - 1) + (m : Int) * (-1)).toNat = its.length - 1 - m := by omega
    rw [q, List.getElem?_toArray, List.getD_eq_getElem?_getD, List.getElem?_eq_getElem (by omega)]
    rfl
  rw [fmapSome e]
  apply List.ext_getElem?
  intro i
  rw [List.getElem?_map]
  by_cases hi : i < its.length
  · rw [List.getElem?_range hi, List.getElem?_reverse hi, Option.map_some, List.getD_eq_getElem?_getD, List.getElem?_eq_getElem (by omega)]
    rfl
  · rw [List.getElem?_eq_none (by simpa using Nat.le_of_not_lt hi), List.getElem?_eq_none (by simpa using Nat.le_of_not_lt hi)]
    rfl
theorem backAdjust (n : Nat) : Builtin.Slice.sliceAdjust none none (-1) (n : Int) = ((n : Int) - 1, -1) := rfl
theorem backPlaces (n : Nat) : Builtin.Slice.slicePlaces ((n : Int) - 1) (-1) (-1) = n := by
  unfold Builtin.Slice.slicePlaces
  rw [if_neg (by decide)]
  by_cases h : (n : Int) - 1 > -1
  · rw [if_pos h]
    have e : ((n : Int) - 1 - -1 - 1) / (- -1) = (n : Int) - 1 := by
      rw [show (- -1 : Int) = 1 from rfl, Int.ediv_one]; omega
    rw [e]
    omega
  · rw [if_neg h]
    have : n = 0 := by omega
    subst this
    rfl
theorem backApplied {sl : Addr} {t : Tok} {n : Nat} {Q : Int × Int × Nat → Shared → Prop} (hs : s.heap.IsSliceOf sl .none .none (.int (-1) t))
    (h : Q ((n : Int) - 1, -1, n) s) : wpAny (model prog w) A (Builtin.Slice.sliceApplied (.ref sl) (pure (n : Int))) Q Ex s := by
  obtain ⟨os, hos, hcs, hds⟩ := id hs
  unfold Builtin.Slice.sliceApplied Builtin.Slice.sliceFields
  refine wpAny_bind (wpAny_bind (wpAny_field hos hds (x := .none) rfl (wpAny_bind (wpAny_field hos hds (x := .none) rfl (wpAny_bind (wpAny_field hos hds (x := .int (-1) t) rfl (wpAny_pure ?_)))))))
  refine wpAny_bind (slicePart_int ?_)
  show wpAny _ _ (if ((-1 : Int) == 0) = true then _ else _) _ _ s
  rw [if_neg (by decide)]
  refine wpAny_bind (slicePart_none (wpAny_bind (slicePart_none (wpAny_bind (wpAny_pure ?_)))))
  show wpAny _ _ (match Builtin.Slice.sliceAdjust none none (-1) (n : Int) with | (lo, hi) => pure (lo, (-1 : Int), Builtin.Slice.slicePlaces lo hi (-1))) _ _ s
  rw [backAdjust]
  show wpAny _ _ (pure ((n : Int) - 1, (-1 : Int), Builtin.Slice.slicePlaces ((n : Int) - 1) (-1) (-1))) _ _ s
  rw [backPlaces]
  exact wpAny_pure h
theorem getTupBack {t sl : Addr} {its : List Value} {tk : Tok} {Q : Value → Shared → Prop} (ht : IsTup s.heap t its.toArray) (hs : s.heap.IsSliceOf sl .none .none (.int (-1) tk))
    (h : Q (.ref s.heap.objs.size) { s with heap := s.heap.push { cls := .type "tuple", data := .seq its.reverse.toArray } }) (hsz : its.length ≤ sizeLine) :
    wpAny (model prog w) A (getItem (.ref t) (.ref sl)) Q Ex s := by
  have htake : sizeOk (.seq its.reverse.toArray) := by
    show its.reverse.toArray.size ≤ sizeLine
    rw [List.size_toArray, List.length_reverse]
    exact hsz
  obtain ⟨os, hos, hcs, hds⟩ := id hs
  have hTs : s.TypeIs (.ref sl) "slice" := ⟨os, hos, hcs⟩
  have hlen : its.toArray.size = its.length := List.size_toArray
  unfold getItem
  try with_reducible refine wpAny_holding ?_
  first | refine wpAny_bind (wpAny_pure ?_) | skip
  refine wpAny_bind (wpAny_sequenceKey ht.typeIs (by decide) ?_)
  refine wpAny_bind (wpAny_callSpecial?_slot (name := Str.ofString "__getitem__") ht.typeIs PyProof.Rows.slot_tuple_getitem
    (wpAny_call_entry PyProof.Rows.slot_tuple_getitem ht.typeIs entry_tuple_getitem ?_ (args_tuple_getitem _ _)))
  show wpAny _ _ (Builtin.Tuple.tupleItemsOf (.ref t) >>= _) _ _ s
  refine wpAny_bind (tupleItemsOf_ ht ?_)
  refine wpAny_bind (wpAny_typeOf hTs ?_)
  rw [if_pos (by decide)]
  rw [hlen]
  refine wpAny_bind (backApplied hs ?_)
  have hno : ¬ (((((its.length : Nat) : Int) - 1) == 0 && (-1 : Int) == 1 && its.length == its.length) = true) := by simp
  show wpAny _ _ (if ((((its.length : Nat) : Int) - 1) == 0 && (-1 : Int) == 1 && its.length == its.length) = true then _ else _) _ _ s
  rw [if_neg hno, backPick]
  first
    | exact wpAny_bind (m := Builtin.Tuple.tupleExact _) (wpAny_newObj_type (wpAny_pure ⟨_, rfl, wpAny_pure h⟩) htake)
    | exact wpAny_bind (m := Builtin.Tuple.tupleExact _) (wpAny_newObj_type (wpAny_bind (wpAny_pure (wpAny_pure ⟨_, rfl, wpAny_pure h⟩))) htake)
    | exact wpAny_bind (wpAny_bind (m := Builtin.Tuple.tupleExact _) (wpAny_newObj_type (wpAny_pure (wpAny_pure ⟨_, rfl, wpAny_pure h⟩)) htake))
    | exact wpAny_bind (wpAny_bind (m := Builtin.Tuple.tupleExact _) (wpAny_newObj_type (wpAny_pure ⟨_, rfl, wpAny_pure h⟩) htake))
end
def tRevT (K : PySem.W.Frag) (te : TE) : TE := fun σ H Q => te σ H fun x H1 => ∃ a xs, x = .ref a ∧ SqT K H1 a xs ∧ ∀ p, H1 p = none → Q (.ref p) (upd H1 p (.tup xs.reverse))
theorem pe_revT {X : Cx} {e : Expr} {te : TE} {k : Nat} {p1 p2 p3 pos : Pos} (he : PE X e te) : PE X (.Subscript e (.Slice none none (some (.UnaryOp .USub (.Constant (.int 1) k p1) p2)) p3) pos) (tRevT X.K te) := by
  refine ⟨fun pins s σ H Q I h => ?_⟩
  refine Subscript_ (thn (he.run pins s σ H _ I h) fun v s1 ⟨x, H1, I1, r1, q1⟩ => ?_)
  obtain ⟨a, xs, ex, hx, q⟩ := q1
  subst ex
  cases r1
  have hst : PO X (some (.UnaryOp .USub (.Constant (.int 1) k p1) p2)) (tPart (tUn (rU fun i => .int (-i)) (tC (.int 1)))) := po_some (pe_un un_neg pe_int)
  refine wpAny_Slice (thn (po_none.run pins s1 σ H1 (fun o H2 => o = none ∧ H2 = H1) I1 ⟨rfl, rfl⟩) fun vl s2 ⟨l, H2, I2, pl, el, e2⟩ => ?_)
  subst el e2
  refine thn (po_none.run pins s2 σ H2 (fun o H3 => o = none ∧ H3 = H2) I2 ⟨rfl, rfl⟩) fun vu s3 ⟨u, H3, I3, pu, eu, e3⟩ => ?_
  subst eu e3
  refine thn (hst.run pins s3 σ H3 (fun o H4 => o = some (-1) ∧ H4 = H3) I3 ⟨1, rfl, -1, rfl, rfl, rfl⟩) fun vs s4 ⟨o, H4, I4, ps, eo, e4⟩ => ?_
  subst eo e4
  cases pl
  cases pu
  cases ps with
  | int i t =>
  have I5 : Inv X pins σ H4 { s4 with heap := s4.heap.push { cls := .type "slice", data := .fields #[.none, .none, .int (-1) t] } } := I4.kept (t' := s4.toks) fun b ob q => Heap.get?_push_of_some _ q
  obtain ⟨its, r, ht, hz⟩ := I5.tuple hx
  have hlen := r.length
  show wpAny (model X.prog X.w) X.A (subscriptTail e (.Slice none none (some (.UnaryOp .USub (.Constant (.int 1) k p1) p2)) p3) (.ref a) (.ref s4.heap.objs.size)) (EP X pins σ Q) X.xe { s4 with heap := s4.heap.push { cls := .type "slice", data := .fields #[.none, .none, .int (-1) t] } }
  refine tail_any (ops := [.ref a, .ref s4.heap.objs.size]) ht.typeIs (PyProof.Rows.slot_tuple_getitem.lookup) ?_ (by with_unfolding_all rfl)
  refine getTupBack ht (Heap.IsSliceOf.new _ .none .none (.int (-1) t)) ?_ (by omega)
  refine ⟨.ref _, _, I5.laid (t' := s4.toks) (o := .tup xs.reverse) (fun b ob q => Heap.get?_push_of_some _ q) (Nat.le_refl _) ?_, rfl, q _ (I5.hok.fresh (Nat.le_refl _))⟩
  exact ⟨by rw [List.length_reverse]; exact hz, its.reverse, r.reverse, IsTup.new _ _⟩

theorem peOr {X : Cx} {e : Expr} {t u : TE} (h : PE X e t) (h' : PE X e u) : PE X e (fun σ H Q => t σ H Q ∨ u σ H Q) :=
  ⟨fun pins s σ H Q I q => q.elim (h.run pins s σ H Q I) (h'.run pins s σ H Q I)⟩
theorem piOr {X : Cx} {tg e : Expr} {t u : TI} (h : PI X tg e t) (h' : PI X tg e u) : PI X tg e (fun σ H Q => t σ H Q ∨ u σ H Q) :=
  ⟨fun pins s σ H Q I q => q.elim (h.run pins s σ H Q I) (h'.run pins s σ H Q I)⟩
theorem piImp {X : Cx} {tg e : Expr} {t t' : TI} (h : PI X tg e t) (i : ∀ σ H Q, t' σ H Q → t σ H Q) : PI X tg e t' := ⟨fun pins s σ H Q I q => h.run pins s σ H Q I (i σ H Q q)⟩
theorem atI_mem {α : Type} {xs : List α} {i : Int} {x : α} (h : atI xs i = some x) : ∃ j : Nat, xs[j]? = some x ∧ ∀ {β : Type} {ys : List β}, ys.length = xs.length → atI ys i = ys[j]? := by
  unfold atI at h
  cases e : ixN xs.length i with
  | none => rw [e] at h; cases h
  | some j =>
    rw [e] at h
    exact ⟨j, h, fun {β ys} hl => by unfold atI; rw [hl, e]; rfl⟩
section
variable {X : Cx} {W : WX} {C : Nat → List D → Rs D} {a b c : E} {x y z : Expr} {pos : Pos}
theorem or_ix : IxR X (rOp X.K ixD) := by
  intro value slice pins s σ H x y v u Q I rx ry h hs
  obtain ⟨F, a, b, d, sF, ha, hb, e, q⟩ := h
  match a, b, e, ha, hb with
  | .list xs, .int i, e, ha, hb =>
    obtain ⟨p, vs, rfl, h1, h2⟩ := ha.unlst
    obtain ⟨j, e1, e2⟩ := atI_mem (ofO_inv e)
    obtain ⟨u', e3, e4⟩ := h2.get e1
    exact ix_list value slice pins s σ H _ y v u Q I rx ry ⟨p, vs, i, u', rfl, hb.unint, .of (sF _ _ h1), (e2 h2.length).trans e3, q _ _ _ (Stp.refl sF) e4⟩ hs
  | .tuple xs, .int i, e, ha, hb =>
    obtain ⟨p, vs, rfl, h1, h2⟩ := ha.untup
    obtain ⟨j, e1, e2⟩ := atI_mem (ofO_inv e)
    obtain ⟨u', e3, e4⟩ := h2.get e1
    exact ix_tup value slice pins s σ H _ y v u Q I rx ry ⟨p, vs, i, u', rfl, hb.unint, sameT sF h1, (e2 h2.length).trans e3, q _ _ _ (Stp.refl sF) e4⟩ hs
  | .str t, .int i, e, ha, hb =>
    obtain ⟨g, e⟩ := guard_ok e
    have e := ofO_inv e
    obtain ⟨c, e1, e2⟩ := Option.map_eq_some_iff.mp e
    subst e2
    refine ix_str value slice pins s σ H x y v u Q I rx ry ⟨t, i, c, ha.unstr.1, hb.unint, by rw [sizeLine_eq]; exact of_decide_eq_true g, e1, q _ _ _ (Stp.refl sF) (.str ?_)⟩ hs
    obtain ⟨j, e3, _⟩ := atI_mem e1
    exact strOk_sub (l := [c]) ha.unstr.2 fun c' hc => by
      rw [List.mem_singleton.mp hc]
      exact List.mem_of_getElem? e3
theorem ixNx : ∀ (x y : D) (c : Str), ixD x y ≠ .exc c := by
  have h : ∀ {α : Type} (o : Option α) (c : Str), (Rs.ofO o : Rs α) ≠ .exc c := by
    intro α o c
    cases o <;> exact fun z => nomatch z
  intro x y c
  unfold ixD
  split <;> first | exact h _ c | exact guard_nx (h _) c | exact badNx c
theorem se_ix (ha : PE X x (sE X W C a)) (hb : PE X y (sE X W C b)) (hs : PlainIx y) : PE X (.Subscript x y pos) (sE X W C (.ix a b)) :=
  peImp (pe_ix or_ix ha hb hs) fun σ H Q ⟨F0, B, ρ, F, R, p⟩ => by
    rw [ev] at p
    refine sE_of R p fun d1 v1 F1 H1 _ R1 st1 dv1 p1 => ?_
    refine sE_of R1 p1 fun d2 v2 F2 H2 _ R2 st2 dv2 p2 => ?_
    exact opD R2.st.sub (dv1.mono st2.sF) dv2 (ixNx d1 d2) p2
/-! slices -/
def sO (X : Cx) (W : WX) (C : Nat → List D → Rs D) (es : List E) : TO := fun σ H Q => ∃ F0 B ρ F, Rel X.kk F0 B ρ σ F H ∧ Pg X.mg W (fun _ (o p : Option Int) => o = p) (evP C es ρ) σ F H Q
theorem poImp {X : Cx} {e : Option Expr} {t t' : TO} (h : PO X e t) (i : ∀ σ H Q, t' σ H Q → t σ H Q) : PO X e t' := ⟨fun pins s σ H Q I q => h.run pins s σ H Q I (i σ H Q q)⟩
theorem so_none : PO X none (sO X W C []) := poImp po_none fun σ H Q ⟨F0, B, ρ, F, R, p⟩ => by
  rw [evP] at p
  exact p.done (Stp.refl R.st.sub) rfl
theorem partNx (d : D) : ∀ c, partD d ≠ .exc c := by
  intro c
  unfold partD
  split <;> first | exact okNx c | exact badNx c
theorem so_some (h : PE X x (sE X W C a)) : PO X (some x) (sO X W C [a]) := poImp (po_some h) fun σ H Q ⟨F0, B, ρ, F, R, p⟩ => by
  rw [evP] at p
  refine sE_of R p fun d v F1 H1 _ R1 st1 dv p1 => ?_
  match d, dv, p1 with
  | .int i, dv, p1 => exact ⟨i, dv.unint, p1.done (Stp.refl R1.st.sub) rfl⟩
theorem sO_of {γ δ : Type} {rel2 : Hp → δ → γ → Prop} {k : Option Int → Rs γ} {Q : δ → Hp → Prop} {Q' : Option Int → Hp → Prop} {es : List E} {σ : L2.St} {F0 B F H : Hp} {ρ : En} (R : Rel X.kk F0 B ρ σ F H) (h : Pg X.mg W rel2 ((evP C es ρ).bind k) σ F H Q)
    (hk : ∀ d F' H', Rel X.kk F0 B ρ σ F' H' → Stp F H F' H' → Pg X.mg W rel2 (k d) σ F' H' Q → Q' d H') : sO X W C es σ H Q' :=
  ⟨F0, B, ρ, F, R, pg_of h fun d v F' H' e st dv p => by
    have dv : v = d := dv
    subst dv
    exact hk v F' H' (R.step st) st p⟩
def rSlD (K : PySem.W.Frag) : V → Option Int → Option Int → Hp → VK → Prop := fun x lo hi H Q => ∃ F a d, Same F H ∧ DV K F x a ∧ slD a lo hi = .ok d ∧ ∀ v F' H', Stp F H F' H' → DV K F' v d → Q v H'
theorem cut_dvs {F : Hp} {vs : List V} {ds : List D} (h : DVs X.K F vs ds) (lo hi : Option Int) : DVs X.K F (cutV vs lo hi) (cutL ds lo hi) := by
  unfold cutV cutL
  rw [h.length]
  exact (h.drop _).take _
theorem or_sl : SlR X (rSlD X.K) := by
  intro pins s σ H x v vl vu lo hi sl Q I rx hs pl pu h
  obtain ⟨F, a, d, sF, ha, e, q⟩ := h
  match a, e, ha with
  | .list xs, e, ha =>
    have e := okInj e
    subst e
    obtain ⟨p, vs, rfl, h1, h2⟩ := ha.unlst
    exact sl_list pins s σ H _ v vl vu lo hi sl Q I rx hs pl pu ⟨p, vs, rfl, .of (sF _ _ h1), fun p' hp => q _ _ _ (Stp.laid sF hp _) (.newLst (cut_dvs h2 lo hi) (sF.free hp))⟩
  | .tuple xs, e, ha =>
    have e := okInj e
    subst e
    obtain ⟨p, vs, rfl, h1, h2⟩ := ha.untup
    refine sl_tupA pins s σ H _ v vl vu lo hi sl Q I rx hs pl pu ⟨p, vs, rfl, sameT sF h1, fun hw => ?_, fun hw p' hp => q _ _ _ (Stp.laid sF hp _) (.newTup (cut_dvs h2 lo hi) (sF.free hp))⟩
    have e : cutL xs lo hi = xs := by
      unfold cutL
      rw [← h2.length, hw.1, hw.2, h2.length]
      simp
    rw [e] at q
    exact q _ _ _ (Stp.refl sF) ha
  | .str t, e, ha =>
    obtain ⟨g, e⟩ := guard_ok e
    have e := okInj e
    subst e
    refine sl_str pins s σ H x v vl vu lo hi sl Q I rx hs pl pu ⟨t, ha.unstr.1, by rw [sizeLine_eq]; exact of_decide_eq_true g, ?_⟩
    have e : cutS t lo hi = ⟨(cutL t.cps.toList lo hi).toArray⟩ := by
      unfold cutS cutL
      rw [show t.length = t.cps.toList.length by simp [Str.length]]
    rw [e]
    exact q _ _ _ (Stp.refl sF) (.str (strOk_sub ha.unstr.2 fun c hc => mem_cut hc))
theorem slNx (a : D) (l h : Option Int) : ∀ c, slD a l h ≠ .exc c := by
  intro c
  unfold slD
  split <;> first | exact okNx c | exact guard_nx okNx c | exact badNx c
theorem se_sl {lo hi : List E} {l h : Option Expr} {p2 : Pos} (ha : PE X x (sE X W C a)) (hl : PO X l (sO X W C lo)) (hh : PO X h (sO X W C hi)) : PE X (.Subscript x (.Slice l h none p2) pos) (sE X W C (.sl a lo hi)) :=
  peImp (pe_slice or_sl ha hl hh) fun σ H Q ⟨F0, B, ρ, F, R, p⟩ => by
    rw [ev] at p
    refine sE_of R p fun d1 v1 F1 H1 _ R1 st1 dv1 p1 => ?_
    refine sO_of R1 p1 fun o F2 H2 R2 st2 p2 => ?_
    refine sO_of R2 p2 fun o' F3 H3 R3 st3 p3 => ?_
    obtain ⟨d, e, p⟩ := p3.ofOk (slNx d1 o o')
    exact ⟨F3, d1, d, R3.st.sub, dv1.mono (st2.sF.trans st3.sF), e, p⟩
theorem revNx (a : D) : ∀ c, revD a ≠ .exc c := by
  intro c
  unfold revD
  split <;> first | exact okNx c | exact badNx c
theorem se_rev {k : Nat} {p1 p2 p3 : Pos} (ha : PE X x (sE X W C a)) : PE X (.Subscript x (.Slice none none (some (.UnaryOp .USub (.Constant (.int 1) k p1) p2)) p3) pos) (sE X W C (.rev a)) :=
  peImp (peOr (pe_revL ha) (pe_revT ha)) fun σ H Q ⟨F0, B, ρ, F, R, p⟩ => by
    rw [ev] at p
    cases e : ev C a ρ with
    | ok d =>
      match d, e with
      | .list ds, e =>
        refine .inl (sE_of R p fun d1 v1 F1 H1 e1 R1 st1 dv1 p1 => ?_)
        rw [e] at e1
        have e1 := okInj e1
        subst e1
        obtain ⟨q, vs, rfl, h1, h2⟩ := dv1.unlst
        exact ⟨q, vs, rfl, .of (R1.st.sub _ _ h1), fun p' hp => p1.done (Stp.laid R1.st.sub hp _) (.newLst h2.reverse (R1.st.sub.free hp))⟩
      | .tuple ds, e =>
        refine .inr (sE_of R p fun d1 v1 F1 H1 e1 R1 st1 dv1 p1 => ?_)
        rw [e] at e1
        have e1 := okInj e1
        subst e1
        obtain ⟨q, vs, rfl, h1, h2⟩ := dv1.untup
        exact ⟨q, vs, rfl, sameT R1.st.sub h1, fun p' hp => p1.done (Stp.laid R1.st.sub hp _) (.newTup h2.reverse (R1.st.sub.free hp))⟩
      | .none, e => rw [e] at p; exact p.elim
      | .bool _, e => rw [e] at p; exact p.elim
      | .int _, e => rw [e] at p; exact p.elim
      | .str _, e => rw [e] at p; exact p.elim
      | .dict _, e => rw [e] at p; exact p.elim
    | exc c =>
      rw [e] at p
      exact .inl ⟨F0, B, ρ, F, R, by rw [e]; exact p⟩
    | bad => rw [e] at p; exact p.elim
/-! is None, True, False -/
theorem se_isN {nj : Nat} {np : Pos} (ha : PE X x (sE X W C a)) : PE X (.Compare x [.Is] [.Constant .none nj np] pos) (sE X W C (.isc false a .none)) :=
  peImp (pe_cmp (pc_isN ha)) fun σ H Q ⟨F0, B, ρ, F, R, p⟩ => by
    rw [ev] at p
    refine sE_of R p fun d1 v1 F1 H1 _ R1 st1 dv1 p1 => ?_
    rw [is_rel dv1]
    cases d1 <;> exact p1.done (Stp.refl R1.st.sub) (.bl _)
theorem se_notN {nj : Nat} {np : Pos} (ha : PE X x (sE X W C a)) : PE X (.Compare x [.IsNot] [.Constant .none nj np] pos) (sE X W C (.isc true a .none)) :=
  peImp (pe_cmp (pc_notN ha)) fun σ H Q ⟨F0, B, ρ, F, R, p⟩ => by
    rw [ev] at p
    refine sE_of R p fun d1 v1 F1 H1 _ R1 st1 dv1 p1 => ?_
    rw [is_rel dv1]
    cases d1 <;> exact p1.done (Stp.refl R1.st.sub) (.bl _)
theorem se_isB {k : Bool} {nj : Nat} {np : Pos} (ha : PE X x (sE X W C a)) : PE X (.Compare x [.Is] [.Constant (.bool k) nj np] pos) (sE X W C (.isc false a (.bool k))) :=
  peImp (pe_cmpR op_isBl ha pe_bl (nomark _)) fun σ H Q ⟨F0, B, ρ, F, R, p⟩ => by
    rw [ev] at p
    refine sE_of R p fun d1 v1 F1 H1 _ R1 st1 dv1 p1 => ?_
    match d1, dv1, p1 with
    | .bool b, dv1, p1 =>
      refine ⟨b, k, dv1.unbl, rfl, ?_⟩
      have e : decide (b = k) = (b == k) := by cases b <;> cases k <;> rfl
      rw [e]
      exact p1.done (Stp.refl R1.st.sub) (.bl _)
theorem se_notB {k : Bool} {nj : Nat} {np : Pos} (ha : PE X x (sE X W C a)) : PE X (.Compare x [.IsNot] [.Constant (.bool k) nj np] pos) (sE X W C (.isc true a (.bool k))) :=
  peImp (pe_cmpR op_notBl ha pe_bl (nomark _)) fun σ H Q ⟨F0, B, ρ, F, R, p⟩ => by
    rw [ev] at p
    refine sE_of R p fun d1 v1 F1 H1 _ R1 st1 dv1 p1 => ?_
    match d1, dv1, p1 with
    | .bool b, dv1, p1 =>
      refine ⟨b, k, dv1.unbl, rfl, ?_⟩
      have e : (!decide (b = k)) = (!(b == k)) := by cases b <;> cases k <;> rfl
      rw [e]
      exact p1.done (Stp.refl R1.st.sub) (.bl _)
/-- a Compare as a test, its value being a truth -/
theorem st_one {op : CmpOp} {t : TE} (h : PE X (.Compare x [op] [y] pos) (sE X W C a)) (hp : PC X op x y t) (hm : behindInMarks op y = false) (i : ∀ σ H Q, sE X W C a σ H Q → t σ H Q) (hb : ∀ ρ d, ev C a ρ = .ok d → ∃ k, d = .bool k) : PT X (.Compare x [op] [y] pos) (sT X W C a) :=
  ptImp (pt_cmp hp hm) fun σ H Q ⟨F0, B, ρ, F, R, p⟩ => by
    refine i _ _ _ (sE_of R p fun d v F1 H1 e R1 st1 dv p1 => ?_)
    obtain ⟨k, rfl⟩ := hb ρ d e
    exact ⟨k, dv.unbl, p1.done (Stp.refl R1.st.sub) rfl⟩
end
end Pu
/-! ### calls, walks -/
namespace Pu
open PySem PySem.Spec PyProof.Rows L2

section
variable {X : Cx} {W : WX} {C : Nat → List D → Rs D} {a b c : E} {x y z : Expr} {pos : Pos}
theorem st_isN {nj : Nat} {np : Pos} (ha : PE X x (sE X W C a)) : PT X (.Compare x [.Is] [.Constant .none nj np] pos) (sT X W C (.isc false a .none)) :=
  ptImp (pt_cmp (pc_isN ha)) fun σ H Q ⟨F0, B, ρ, F, R, p⟩ => by
    rw [ev] at p
    simp only [bind_assoc] at p
    refine sE_of R p fun d1 v1 F1 H1 _ R1 st1 dv1 p1 => ⟨_, rfl, ?_⟩
    rw [is_rel dv1]
    cases d1 <;> exact p1.done (Stp.refl R1.st.sub) rfl
theorem st_notN {nj : Nat} {np : Pos} (ha : PE X x (sE X W C a)) : PT X (.Compare x [.IsNot] [.Constant .none nj np] pos) (sT X W C (.isc true a .none)) :=
  ptImp (pt_cmp (pc_notN ha)) fun σ H Q ⟨F0, B, ρ, F, R, p⟩ => by
    rw [ev] at p
    simp only [bind_assoc] at p
    refine sE_of R p fun d1 v1 F1 H1 _ R1 st1 dv1 p1 => ⟨_, rfl, ?_⟩
    rw [is_rel dv1]
    cases d1 <;> exact p1.done (Stp.refl R1.st.sub) rfl
theorem st_isB {k : Bool} {nj : Nat} {np : Pos} (ha : PE X x (sE X W C a)) : PT X (.Compare x [.Is] [.Constant (.bool k) nj np] pos) (sT X W C (.isc false a (.bool k))) :=
  ptImp (pt_cmpR op_isBl ha pe_bl (nomark _)) fun σ H Q ⟨F0, B, ρ, F, R, p⟩ => by
    rw [ev] at p
    simp only [bind_assoc] at p
    refine sE_of R p fun d1 v1 F1 H1 _ R1 st1 dv1 p1 => ?_
    match d1, dv1, p1 with
    | .bool b, dv1, p1 =>
      refine ⟨b, k, dv1.unbl, rfl, _, rfl, ?_⟩
      have e : decide (b = k) = (b == k) := by cases b <;> cases k <;> rfl
      rw [e]
      exact p1.done (Stp.refl R1.st.sub) rfl
theorem st_notB {k : Bool} {nj : Nat} {np : Pos} (ha : PE X x (sE X W C a)) : PT X (.Compare x [.IsNot] [.Constant (.bool k) nj np] pos) (sT X W C (.isc true a (.bool k))) :=
  ptImp (pt_cmpR op_notBl ha pe_bl (nomark _)) fun σ H Q ⟨F0, B, ρ, F, R, p⟩ => by
    rw [ev] at p
    simp only [bind_assoc] at p
    refine sE_of R p fun d1 v1 F1 H1 _ R1 st1 dv1 p1 => ?_
    match d1, dv1, p1 with
    | .bool b, dv1, p1 =>
      refine ⟨b, k, dv1.unbl, rfl, _, rfl, ?_⟩
      have e : (!decide (b = k)) = (!(b == k)) := by cases b <;> cases k <;> rfl
      rw [e]
      exact p1.done (Stp.refl R1.st.sub) rfl

/-! built-in functions -/
def rCl (K : PySem.W.Frag) (f : List D → Rs D) : List V → Hp → VK → Prop := fun vs H Q => ∃ F ds d, Same F H ∧ DVs K F vs ds ∧ f ds = .ok d ∧ ∀ v F' H', Stp F H F' H' → DV K F' v d → Q v H'
theorem DVs.one {F : Hp} {vs : List V} {d : D} (h : DVs X.K F vs [d]) : ∃ v, vs = [v] ∧ DV X.K F v d := by
  obtain ⟨v, r, rfl, h1, h2⟩ := h.uncons
  rw [h2.unnil]
  exact ⟨v, rfl, h1⟩
theorem DVs.two {F : Hp} {vs : List V} {d e : D} (h : DVs X.K F vs [d, e]) : ∃ v u, vs = [v, u] ∧ DV X.K F v d ∧ DV X.K F u e := by
  obtain ⟨v, r, rfl, h1, h2⟩ := h.uncons
  obtain ⟨u, rfl, h3⟩ := h2.one
  exact ⟨v, u, rfl, h1, h3⟩
theorem bools_dvs {F : Hp} : ∀ {ds : List D} {vs : List V} {bs : List Bool}, DVs X.K F vs ds → boolsOf ds = some bs → vs = bs.map V.bl
  | [], vs, bs, h, e => by
    rw [h.unnil]
    cases e
    rfl
  | .bool k :: ds, vs, bs, h, e => by
    obtain ⟨v, r, rfl, h1, h2⟩ := h.uncons
    obtain ⟨bs', e1, e2⟩ := Option.map_eq_some_iff.mp e
    subst e2
    rw [h1.unbl, bools_dvs h2 e1]
    rfl
theorem ints_dvs {F : Hp} : ∀ {ds : List D} {vs : List V} {bs : List Int}, DVs X.K F vs ds → intsOf ds = some bs → vs = bs.map V.int
  | [], vs, bs, h, e => by
    rw [h.unnil]
    cases e
    rfl
  | .int k :: ds, vs, bs, h, e => by
    obtain ⟨v, r, rfl, h1, h2⟩ := h.uncons
    obtain ⟨bs', e1, e2⟩ := Option.map_eq_some_iff.mp e
    subst e2
    rw [h1.unint, ints_dvs h2 e1]
    rfl
theorem cl_len : CallR X (.builtin "len") (rCl X.K (biD .len)) := by
  intro pins s σ H xs us Q I r h
  obtain ⟨F, ds, d, sF, hd, e, q⟩ := h
  match ds, e, hd with
  | [.list ys], e, hd =>
    obtain ⟨v, rfl, dv⟩ := hd.one
    obtain ⟨p, vs, rfl, h1, h2⟩ := dv.unlst
    have e := okInj e
    subst e
    exact call_len_seq pins s σ H _ us Q I r ⟨p, vs, rfl, .inl (.of (sF _ _ h1)), by rw [h2.length]; exact q _ _ _ (Stp.refl sF) (.int _)⟩
  | [.tuple ys], e, hd =>
    obtain ⟨v, rfl, dv⟩ := hd.one
    obtain ⟨p, vs, rfl, h1, h2⟩ := dv.untup
    have e := okInj e
    subst e
    exact call_len_seq pins s σ H _ us Q I r ⟨p, vs, rfl, .inr (sameT sF h1), by rw [h2.length]; exact q _ _ _ (Stp.refl sF) (.int _)⟩
  | [.str t], e, hd =>
    obtain ⟨v, rfl, dv⟩ := hd.one
    obtain ⟨g, e⟩ := guard_ok e
    have e := okInj e
    subst e
    exact call_len_str pins s σ H _ us Q I r ⟨t, by rw [dv.unstr.1], by rw [sizeLine_eq]; exact of_decide_eq_true g, q _ _ _ (Stp.refl sF) (.int _)⟩
theorem cl_all (hc : X.calm = true) : CallR X (.builtin "all") (rCl X.K (biD .all)) := by
  intro pins s σ H xs us Q I r h
  obtain ⟨F, ds, d, sF, hd, e, q⟩ := h
  match ds, e, hd with
  | [.list ys], e, hd =>
    obtain ⟨v, rfl, dv⟩ := hd.one
    obtain ⟨p, vs, rfl, h1, h2⟩ := dv.unlst
    obtain ⟨bs, e1, e⟩ := bind_inv e
    have e := okInj e
    subst e
    have hb := bools_dvs h2 (ofO_inv e1)
    subst hb
    exact cr_all hc pins s σ H _ us Q I r ⟨p, bs, rfl, .of (sF _ _ h1), q _ _ _ (Stp.refl sF) (.bl _)⟩
theorem cl_any (hc : X.calm = true) : CallR X (.builtin "any") (rCl X.K (biD .any)) := by
  intro pins s σ H xs us Q I r h
  obtain ⟨F, ds, d, sF, hd, e, q⟩ := h
  match ds, e, hd with
  | [.list ys], e, hd =>
    obtain ⟨v, rfl, dv⟩ := hd.one
    obtain ⟨p, vs, rfl, h1, h2⟩ := dv.unlst
    obtain ⟨bs, e1, e⟩ := bind_inv e
    have e := okInj e
    subst e
    have hb := bools_dvs h2 (ofO_inv e1)
    subst hb
    exact cr_any hc pins s σ H _ us Q I r ⟨p, bs, rfl, .of (sF _ _ h1), q _ _ _ (Stp.refl sF) (.bl _)⟩
theorem cl_sum (hc : X.calm = true) : CallR X (.builtin "sum") (rCl X.K (biD .sum)) := by
  intro pins s σ H xs us Q I r h
  obtain ⟨F, ds, d, sF, hd, e, q⟩ := h
  match ds, e, hd with
  | [.list ys], e, hd =>
    obtain ⟨v, rfl, dv⟩ := hd.one
    obtain ⟨p, vs, rfl, h1, h2⟩ := dv.unlst
    obtain ⟨bs, e1, e⟩ := bind_inv e
    have e := okInj e
    subst e
    have hb := ints_dvs h2 (ofO_inv e1)
    subst hb
    exact cr_sum hc pins s σ H _ us Q I r ⟨p, bs, rfl, .of (sF _ _ h1), q _ _ _ (Stp.refl sF) (.int _)⟩
theorem cl_tuple : CallR X (.type "tuple") (rCl X.K (biD .tuple)) := by
  intro pins s σ H xs us Q I r h
  obtain ⟨F, ds, d, sF, hd, e, q⟩ := h
  match ds, e, hd with
  | [.list ys], e, hd =>
    obtain ⟨v, rfl, dv⟩ := hd.one
    obtain ⟨p, vs, rfl, h1, h2⟩ := dv.unlst
    have e := okInj e
    subst e
    exact call_tuple_of pins s σ H _ us Q I r ⟨p, vs, rfl, .inl ⟨.of (sF _ _ h1), fun l hl => q _ _ _ (Stp.laid sF hl _) (.newTup h2 (sF.free hl))⟩⟩
  | [.tuple ys], e, hd =>
    obtain ⟨v, rfl, dv⟩ := hd.one
    obtain ⟨p, vs, rfl, h1, h2⟩ := id dv.untup
    have e := okInj e
    subst e
    exact call_tuple_of pins s σ H _ us Q I r ⟨p, vs, rfl, .inr ⟨sameT sF h1, q _ _ _ (Stp.refl sF) dv⟩⟩
theorem cl_list : CallR X (.type "list") (rCl X.K (biD .list)) := by
  intro pins s σ H xs us Q I r h
  obtain ⟨F, ds, d, sF, hd, e, q⟩ := h
  match ds, e, hd with
  | [.list ys], e, hd =>
    obtain ⟨v, rfl, dv⟩ := hd.one
    obtain ⟨p, vs, rfl, h1, h2⟩ := dv.unlst
    have e := okInj e
    subst e
    exact call_list_of pins s σ H _ us Q I r ⟨p, vs, rfl, .inl (.of (sF _ _ h1)), fun l hl => q _ _ _ (Stp.laid sF hl _) (.newLst h2 (sF.free hl))⟩
  | [.tuple ys], e, hd =>
    obtain ⟨v, rfl, dv⟩ := hd.one
    obtain ⟨p, vs, rfl, h1, h2⟩ := dv.untup
    have e := okInj e
    subst e
    exact call_list_of pins s σ H _ us Q I r ⟨p, vs, rfl, .inr (sameT sF h1), fun l hl => q _ _ _ (Stp.laid sF hl _) (.newLst h2 (sF.free hl))⟩
theorem cl_min2 (hc : X.calm = true) : CallR X (.builtin "min") (rCl X.K (biD .min2)) := by
  intro pins s σ H xs us Q I r h
  obtain ⟨F, ds, d, sF, hd, e, q⟩ := h
  match ds, e, hd with
  | [.int i, .int j], e, hd =>
    obtain ⟨v, u, rfl, h1, h2⟩ := hd.two
    have e := okInj e
    subst e
    rw [h1.unint, h2.unint] at r
    exact call_min2 hc pins s σ H _ us Q I r ⟨i, j, rfl, q _ _ _ (Stp.refl sF) (.int _)⟩
theorem cl_int : CallR X (.type "int") (rCl X.K (biD .intb)) := by
  intro pins s σ H xs us Q I r h
  obtain ⟨F, ds, d, sF, hd, e, q⟩ := h
  match ds, e, hd with
  | [.bool k], e, hd =>
    obtain ⟨v, rfl, h1⟩ := hd.one
    have e := okInj e
    subst e
    rw [h1.unbl] at r
    exact call_int1 pins s σ H _ us Q I r (.inr ⟨k, rfl, q _ _ _ (Stp.refl sF) (.int _)⟩)
theorem ofONx {α : Type} {o : Option α} : ∀ c, (Rs.ofO o : Rs α) ≠ .exc c := by
  intro c
  cases o <;> exact fun z => nomatch z
theorem biNx (f : Bi) (ds : List D) : ∀ c, biD f ds ≠ .exc c := by
  intro c
  unfold biD
  split <;> first | exact okNx c | exact guard_nx okNx c | exact badNx c | exact bindNx ofONx (fun _ => okNx) c | exact bindNx (guard_nx okNx) (fun _ => okNx) c | exact guard_nx (bindNx (guard_nx okNx) fun _ => okNx) c | exact bindNx ofONx (fun _ => guard_nx okNx) c
theorem se_biB {f : Bi} {es : List E} {xs : List Expr} {nm : Str} {id : String} {p : Pos} (hc : CallR X (.builtin id) (rCl X.K (biD f))) (hg : Gl X nm) (hm : X.mg nm = none) (hv : bootBuiltins nm = some (.builtin id)) (h : PA X (x :: xs) (sA X W C es))
    (hn : nm ≠ "__name__") (hdb : (nm == ("__debug__" : Str)) = false) (he : starEach (x :: xs) X.env = (false, eval x X.env) :: starEach xs X.env) (hpl : (backTo pos (starEach xs X.env)).any (·.1) = false) :
    PE X (.Call (.Name nm p) (x :: xs) [] pos) (sE X W C (.bi f es)) :=
  peImp (pe_callB hc hg hm hv h hn hdb he hpl) fun σ H Q ⟨F0, B, ρ, F, R, p⟩ => by
    rw [ev] at p
    refine sA_of R p fun ds vs F1 H1 _ R1 st1 dv1 p1 => ?_
    obtain ⟨d, e, q⟩ := p1.ofOk (biNx f ds)
    exact ⟨F1, ds, d, R1.st.sub, dv1, e, q⟩
theorem se_biT {f : Bi} {es : List E} {xs : List Expr} {nm : Str} {T : String} {p : Pos} (hc : CallR X (.type T) (rCl X.K (biD f))) (hg : Gl X nm) (hm : X.mg nm = none) (hv : bootBuiltins nm = some (.type T)) (h : PA X (x :: xs) (sA X W C es))
    (hn : nm ≠ "__name__") (hdb : (nm == ("__debug__" : Str)) = false) (he : starEach (x :: xs) X.env = (false, eval x X.env) :: starEach xs X.env) (hpl : (backTo pos (starEach xs X.env)).any (·.1) = false) :
    PE X (.Call (.Name nm p) (x :: xs) [] pos) (sE X W C (.bi f es)) :=
  peImp (pe_callTy hc hg hm hv h hn hdb he hpl) fun σ H Q ⟨F0, B, ρ, F, R, p⟩ => by
    rw [ev] at p
    refine sA_of R p fun ds vs F1 H1 _ R1 st1 dv1 p1 => ?_
    obtain ⟨d, e, q⟩ := p1.ofOk (biNx f ds)
    exact ⟨F1, ds, d, R1.st.sub, dv1, e, q⟩

/-! isinstance -/
def tyN : Ty → String
  | .tuple => "tuple"
  | .str => "str"
  | .int => "int"
  | .bool => "bool"
def tyD : D → String
  | .none => "NoneType"
  | .bool _ => "bool"
  | .int _ => "int"
  | .str _ => "str"
  | .list _ => "list"
  | .tuple _ => "tuple"
  | .dict _ => "dict"
theorem kit_t : (kitB "NoneType" "tuple" = some false ∧ kitB "bool" "tuple" = some false ∧ kitB "int" "tuple" = some false ∧ kitB "str" "tuple" = some false ∧ kitB "list" "tuple" = some false ∧ kitB "tuple" "tuple" = some true ∧ kitB "dict" "tuple" = some false) := by decide +kernel
theorem kit_s : (kitB "NoneType" "str" = some false ∧ kitB "bool" "str" = some false ∧ kitB "int" "str" = some false ∧ kitB "str" "str" = some true ∧ kitB "list" "str" = some false ∧ kitB "tuple" "str" = some false ∧ kitB "dict" "str" = some false) := by decide +kernel
theorem kit_i : (kitB "NoneType" "int" = some false ∧ kitB "bool" "int" = some true ∧ kitB "int" "int" = some true ∧ kitB "str" "int" = some false ∧ kitB "list" "int" = some false ∧ kitB "tuple" "int" = some false ∧ kitB "dict" "int" = some false) := by decide +kernel
theorem kit_b : (kitB "NoneType" "bool" = some false ∧ kitB "bool" "bool" = some true ∧ kitB "int" "bool" = some false ∧ kitB "str" "bool" = some false ∧ kitB "list" "bool" = some false ∧ kitB "tuple" "bool" = some false ∧ kitB "dict" "bool" = some false) := by decide +kernel
theorem kit_all (d : D) (t : Ty) : kitB (tyD d) (tyN t) = some (isTy d t) := by
  obtain ⟨t1, t2, t3, t4, t5, t6, t7⟩ := kit_t
  obtain ⟨s1, s2, s3, s4, s5, s6, s7⟩ := kit_s
  obtain ⟨i1, i2, i3, i4, i5, i6, i7⟩ := kit_i
  obtain ⟨b1, b2, b3, b4, b5, b6, b7⟩ := kit_b
  cases t <;> cases d <;> assumption
theorem tyx_of {F H : Hp} {v : V} {d : D} (sF : Same F H) (h : DV X.K F v d) : TyX X.K H v (.type (tyD d)) := by
  match d, h with
  | .none, h => rw [h.unnon]; exact .base .non
  | .bool b, h => rw [h.unbl]; exact .base (.bl b)
  | .int i, h => rw [h.unint]; exact .base (.int i)
  | .str t, h => rw [h.unstr.1]; exact .base (.str t)
  | .list ds, h =>
    obtain ⟨p, vs, rfl, h1, _⟩ := h.unlst
    exact .base (.lst (sF _ _ h1))
  | .tuple ds, h =>
    obtain ⟨p, vs, rfl, h1, _⟩ := h.untup
    rcases sameT sF h1 with (h1 | ⟨o, h1⟩) | ⟨o, its, n, k1, k2, _⟩
    · exact .base (.tup h1)
    · exact .fTuple h1
    · exact .kTuple k1 k2
theorem kitAny_all {K : PySem.W.Frag} (d : D) : ∀ ts : List Ty, PySem.W.kitAny K (.type (tyD d)) (ts.map fun t => .type (tyN t)) = some (ts.any (isTy d))
  | [] => kitAny_nil
  | t :: ts => by
    rw [List.map_cons, List.any_cons]
    refine kitAny_cons (kit_ty (kit_all d t)) (fun e => ?_) (fun e => ?_)
    · rw [e, Bool.false_or]
      exact kitAny_all d ts
    · rw [e, Bool.true_or]
theorem se_isi1 {t : Ty} {p p2 : Pos} {nm : Str} (hg : Gl X "isinstance") (hm : X.mg "isinstance" = none) (ha : PE X x (sE X W C a)) (ht : PE X y (tC (.ty (tyN t))))
    (he : starEach (x :: [y]) X.env = (false, eval x X.env) :: starEach [y] X.env) (hy : starEach [y] X.env = (false, eval y X.env) :: starEach [] X.env) (hpl : (backTo pos (starEach [y] X.env)).any (·.1) = false) :
    PE X (.Call (.Name "isinstance" p) [x, y] [] pos) (sE X W C (.isi a [t])) :=
  peImp (pe_callB call_isi hg hm boot_isinstance (pa_cons ha (pa_cons ht pa_nil hy) he) (by decide) (by decide) he hpl) fun σ H Q ⟨F0, B, ρ, F, R, p⟩ => by
    rw [ev] at p
    refine sE_of R p fun d v F1 H1 _ R1 st1 dv p1 => ?_
    refine ⟨v, .ty (tyN t), .type (tyD d), .type (tyN t), isTy d t, rfl, .ty _, tyx_of R1.st.sub dv, kit_ty (kit_all d t), ?_⟩
    have e : [t].any (isTy d) = isTy d t := by simp
    rw [e] at p1
    exact p1.done (Stp.refl R1.st.sub) (.bl _)
theorem se_isi2 {t u : Ty} {p pt : Pos} {k : Nat} (hg : Gl X "isinstance") (hm : X.mg "isinstance" = none) (ha : PE X x (sE X W C a)) (ht : PE X y (tC (.ty (tyN t)))) (hu : PE X z (tC (.ty (tyN u))))
    (he : starEach (x :: [.Tuple [y, z] k pt]) X.env = (false, eval x X.env) :: starEach [.Tuple [y, z] k pt] X.env) (hy : starEach [y, z] X.env = (false, eval y X.env) :: starEach [z] X.env) (hz : starEach [z] X.env = (false, eval z X.env) :: starEach [] X.env) (hpl : (backTo pos (starEach [.Tuple [y, z] k pt] X.env)).any (·.1) = false) :
    PE X (.Call (.Name "isinstance" p) [x, .Tuple [y, z] k pt] [] pos) (sE X W C (.isi a [t, u])) :=
  peImp (pe_callB call_isiT hg hm boot_isinstance (pa_cons ha (pa_cons (pe_tup (pa_cons ht (pa_cons hu pa_nil hz) hy)) pa_nil) he) (by decide) (by decide) he hpl) fun σ H Q ⟨F0, B, ρ, F, R, p⟩ => by
    rw [ev] at p
    refine sE_of R p fun d v F1 H1 _ R1 st1 dv p1 => ?_
    refine ⟨by show 2 ≤ sizeLine; decide, fun q hq => ?_⟩
    have st := Stp.junk R1.st.sub hq (.tup [V.ty (tyN t), V.ty (tyN u)])
    refine ⟨v, q, [.ty (tyN t), .ty (tyN u)], .type (tyD d), [.type (tyN t), .type (tyN u)], [t, u].any (isTy d), rfl, upd_same, .cons (.ty _) (.cons (.ty _) .nil), tyx_of st.sub dv, kitAny_all d [t, u], ?_⟩
    exact p1.done st (.bl _)

/-! own defs -/
/-- a def's promise by data -/
def spD (K : PySem.W.Frag) (mg : Str → Option Value) (P : List D → Rs D) : Sp := fun vs H Q Ee => ∃ F ds, Same F H ∧ DVs K F vs ds ∧ Pg mg (fun c d _ H => Ee c d H) (DV K) (P ds) [] F H Q
structure FnC (X : Cx) (P : List D → Rs D) (nm : Str) : Prop where
  ex : ∃ (f : Addr) (fd : FuncData) (ps : List Str) (k : Nat), FnOk X.prog X.w X.K X.mg X.base (L2.CX X.prog X.w) k f fd ps (spD X.K X.mg P) ∧ Room k X.A ∧ X.mg nm = some (.ref f) ∧ PySem.W.keepIn X.K (.ref f) = true ∧ Binds X.K fd ps []
theorem se_call {f : Nat} {es : List E} {xs : List Expr} {nm : Str} {p : Pos} (G : FnC X (C f) nm) (tk : Takes X W) (hg : Gl X nm) (h : PA X (x :: xs) (sA X W C es)) (hdb : (nm == ("__debug__" : Str)) = false)
    (he : starEach (x :: xs) X.env = (false, eval x X.env) :: starEach xs X.env) (hpl : (backTo pos (starEach xs X.env)).any (·.1) = false) : PE X (.Call (.Name nm p) (x :: xs) [] pos) (sE X W C (.call f es)) := by
  obtain ⟨fa, fd, ps, k, G1, G2, G3, G4, G5⟩ := G.ex
  exact peImp (pe_callS G1 G2 hg G3 G4 G5 (fun σ => passAt tk σ) h hdb he hpl) fun σ H Q ⟨F0, B, ρ, F, R, p⟩ => by
    rw [ev] at p
    refine sA_of R p fun ds vs F1 H1 _ R1 st1 dv1 p1 => ?_
    refine ⟨F1, ds, R1.st.sub, dv1, ?_⟩
    cases e : C f ds with
    | ok d => rw [e] at p1; exact p1
    | exc c => rw [e] at p1; exact p1
    | bad => rw [e] at p1; exact p1
theorem se_call0 {f : Nat} {nm : Str} {p : Pos} (G : FnC X (C f) nm) (hg : Gl X nm) (hdb : (nm == ("__debug__" : Str)) = false) : PE X (.Call (.Name nm p) [] [] pos) (sE X W C (.call0 f)) := by
  obtain ⟨fa, fd, ps, k, G1, G2, G3, G4, G5⟩ := G.ex
  exact peImp (pe_call0 G1 G2 hg G3 G4 G5 .nil passL hdb) fun σ H Q ⟨F0, B, ρ, F, R, p⟩ => by
    rw [ev] at p
    refine ⟨F, [], R.st.sub, .nil, ?_⟩
    cases e : C f [] with
    | ok d => rw [e] at p; exact p
    | exc c => rw [e] at p; exact p.elim
    | bad => rw [e] at p; exact p.elim
/-- the law's look at the script -/
def spCell (K : PySem.W.Frag) : Sp := fun vs H Q _ => ∃ (a : Addr) (ns : List Int) (k : Int), vs = [.ref a, .int k] ∧ SqL K H a (ns.map V.int) ∧ 0 ≤ k ∧ Q (.int (ns.getD k.toNat 0)) H
structure CellC (X : Cx) (nm : Str) : Prop where
  ex : ∃ (f : Addr) (fd : FuncData) (ps : List Str) (k : Nat), FnOk X.prog X.w X.K X.mg X.base (L2.CX X.prog X.w) k f fd ps (spCell X.K) ∧ Room k X.A ∧ X.mg nm = some (.ref f) ∧ PySem.W.keepIn X.K (.ref f) = true ∧ Binds X.K fd ps []
theorem se_cell {i : Nat} {nm sc : Str} {p p2 : Pos} (G : CellC X nm) (tk : Takes X W) (hg : Gl X nm) (hN : X.N[i]? = some sc) (hv : Vis X.env.scope sc) (hd : (sc == ("__debug__" : Str)) = false) (hcd : (sc == ("__classdict__" : Str)) = false)
    (ha : PE X y (sE X W C a)) (hdb : (nm == ("__debug__" : Str)) = false) (hy : starEach [y] X.env = (false, eval y X.env) :: starEach [] X.env) (hpl : (backTo pos (starEach [y] X.env)).any (·.1) = false) :
    PE X (.Call (.Name nm p) [.Name sc p2, y] [] pos) (sE X W C (.cell i a)) := by
  obtain ⟨fa, fd, ps, k, G1, G2, G3, G4, G5⟩ := G.ex
  exact peImp (pe_callS G1 G2 hg G3 G4 G5 (fun σ => passAt tk σ) (pa_cons (pe_var hN hv hd hcd) (pa_cons ha pa_nil hy)) hdb rfl hpl) fun σ H Q ⟨F0, B, ρ, F, R, p⟩ => by
    rw [ev] at p
    split at p
    · rename_i ns hs
      have q := R.sl i
      rw [hs] at q
      obtain ⟨sa, e1, e2⟩ := q
      refine ⟨.ref sa, getV_some e1, sE_of R p fun d v F1 H1 _ R1 st1 dv p1 => ?_⟩
      match d, dv, p1 with
      | .int k', dv, p1 =>
        have p1 : Pg X.mg W (DV X.K) (.guard (decide (0 ≤ k')) (.ok (.int (ns.getD k'.toNat 0)))) σ F1 H1 Q := p1
        cases g : decide (0 ≤ k') with
        | true =>
          rw [g] at p1
          exact ⟨sa, ns, k', by rw [dv.unint], (R1.st.sub).seq (st1.sF.seq e2), of_decide_eq_true g, p1.done (Stp.refl R1.st.sub) (.int _)⟩
        | false => rw [g] at p1; exact p1.elim
    · exact p.elim
end
end Pu
/-! ### enumerate of a tuple -/
namespace PySem
open AutoSeq1 (wpAny_loadPart')
theorem enumNewTup (l : Addr) (items : Array Value) (n : Nat) (dct : Option Addr) (sl : Array (Option Value)) :
    Meets (Builtin.«enumerate.__new__» ⟨[.type "enumerate", .ref l], []⟩) (fun _ R s => s.heap.get? l = some { cls := .type "tuple", dict := dct, data := .seq items n, slots := sl } ∧
      R (.ok (.ret (.ref (s.heap.push { cls := .type "tuple_iterator", data := .fields #[.ref l, .int 0 0] }).objs.size)))
        { s with heap := (s.heap.push { cls := .type "tuple_iterator", data := .fields #[.ref l, .int 0 0] }).push { cls := .type "enumerate", data := .fields #[.none, .bool false, .ref s.heap.objs.size, rawInt 0, .none, .none] } }) :=
  .of_wp fun prog w A R s h => by
    obtain ⟨hp, g, d, tk, os⟩ := s
    obtain ⟨hl, h⟩ := h
    have hsub := sub_enumerate
    have hL : Heap.IsTuple (Shared.heap ⟨hp, g, d, tk, os⟩) l items := ⟨_, hl, rfl, n, rfl⟩
    wp_walk using wpAny_loadPart' hl
    refine wpAny_stack_any fun st => wpAny_pure ?_
    split
    · rename_i c _ _ _ _ _
      cases (c == Value.type "enumerate")
      · wp_walk using wpAny_loadPart' hl, wpAny_pyIter_tuple hL
        exact ⟨_, rfl, h⟩
      · wp_walk using wpAny_loadPart' hl, wpAny_pyIter_tuple hL
        exact ⟨_, rfl, h⟩
    · wp_walk using wpAny_loadPart' hl, wpAny_pyIter_tuple hL
      exact ⟨_, rfl, h⟩
section
variable {prog : Program} {w : World} {A : Around} {E : Value → Shared → Prop} {s : Shared}
theorem enumCallTup {l : Addr} {items : Array Value} {Q : Value → Shared → Prop} (hL : s.heap.IsTuple l items)
    (h : ∀ h', IsEnum h' (s.heap.objs.size + 1) s.heap.objs.size 0 .none → h'.IsTupleIter s.heap.objs.size l 0 → h'.objs.size = s.heap.objs.size + 2 →
      (∀ b o, s.heap.get? b = some o → h'.get? b = some o) → Q (.ref (s.heap.objs.size + 1)) { s with heap := h' }) :
    wpAny (model prog w) A (call (.type "enumerate") [.ref l]) Q E s := by
  obtain ⟨⟨c, dct, dt, sl⟩, hl, hc, n, hd⟩ := hL
  replace hc : c = .type "tuple" := hc
  replace hd : dt = .seq items n := hd
  subst hc hd
  refine callType_new F.called_enumerate (by decide) (F.typeCall_enumerate_1 _) (F.newCall_enumerate_1 _) (fun obj => F.args_object_init_2 obj _) F.entry_enumerate_new
    (enumNewTup l items n dct sl) ⟨hl, ?_⟩
  generalize hi : ({ cls := .type "tuple_iterator", data := .fields #[.ref l, .int 0 0] } : Obj) = io
  have hz : (s.heap.push io).objs.size = s.heap.objs.size + 1 := Heap.size_push ..
  show _ ∧ _
  rw [hz]
  have he : IsEnum ((s.heap.push io).push { cls := .type "enumerate", data := .fields #[.none, .bool false, .ref s.heap.objs.size, rawInt 0, .none, .none] }) (s.heap.objs.size + 1) s.heap.objs.size 0 .none := by
    have q := Heap.get?_push_size (s.heap.push io) (o := { cls := .type "enumerate", data := .fields #[.none, .bool false, .ref s.heap.objs.size, rawInt 0, .none, .none] }) rfl
    rw [hz] at q
    exact q
  refine ⟨⟨_, he, rfl⟩, h _ he ⟨io, Heap.get?_push_of_some _ (Heap.get?_push_size _ (by rw [← hi]; rfl)), by rw [← hi], by rw [← hi]; rfl⟩ (by rw [Heap.size_push, hz]) fun b o x => Heap.get?_push_of_some _ (Heap.get?_push_of_some _ x)⟩
end
end PySem
namespace Pu
open PySem PySem.Spec PyProof.Rows L2

/-- the tuple at a, each item in a new pair -/
def IteT (K : PySem.W.Frag) (a : Addr) : L2.It :=
  ⟨fun i H => ∃ (xs : List V) (x : V), SqT K H a xs ∧ xs[i]? = some x, fun i H v H' => ∃ T x, v = .ref T ∧ H T = none ∧ H' = upd H T (.tup [.int (i : Nat), x]) ∧ ∀ xs, SqT K H a xs → xs[i]? = some x, fun i H => ∃ xs : List V, SqT K H a xs ∧ xs.length = i⟩
theorem turnEnumT {P : Program} {w : World} {K : PySem.W.Frag} {elts : List Expr} {kk : Nat} {tpos : Pos} (a e it : Addr) :
    L2.Turn P w K (.Tuple elts kk tpos) (IteT K a) [e, it] e (fun i h => (∃ old, IsEnum h e it ((i : Nat) : Int) old) ∧ h.IsTupleIter it a i ∧ e ≠ it ∧ a ≠ it) where
  mem := by simp
  obj := fun i h st b hb => by
    obtain ⟨⟨old, he⟩, ⟨o, ho, hc, hd⟩, _⟩ := st
    have e' : b = e ∨ b = it := by simpa using hb
    rcases e' with z | z
    · rw [z]; exact ⟨_, he, fun v q => nomatch q⟩
    · rw [z]; exact ⟨o, ho, fun v q => by rw [hd] at q; cases q⟩
  keep := fun i h h' st k => by
    obtain ⟨⟨old, he⟩, hi, hne⟩ := st
    exact ⟨⟨old, k e (by simp) _ he⟩, hi.at fun o q => k it (by simp) o q, hne⟩
  item := by
    intro X hP hw hK hc i pins s σ H E I hf st hg
    subst hP hw hK
    obtain ⟨⟨old, he⟩, hit, hne, hai⟩ := st
    obtain ⟨xs, x, hq, hx⟩ := hg
    obtain ⟨its, rv, p, hz⟩ := I.tuple hq
    obtain ⟨u, hu, ru⟩ := rv.get hx
    have hel : e < s.heap.objs.size := Heap.lt_size he
    have hil : it < s.heap.objs.size := by obtain ⟨_, q, _⟩ := hit; exact Heap.lt_size q
    have hae : e ≠ a := fun z => by
      obtain ⟨o, ho, hcl, _⟩ := p
      rw [← z, he] at ho
      cases ho
      have hcl : Value.type "enumerate" = Value.type "tuple" := hcl
      exact absurd hcl (by decide)
    have Dr := Draws.tuple (prog := X.prog) (w := X.w) (A := X.A.in1) (I.ok.hd hc) it a hai its.toArray
    have hlt : i < its.toArray.size := by
      have := (List.getElem?_eq_some_iff.mp hu).1
      simpa using this
    have p' : s.heap.IsTuple a its.toArray := p
    refine wpAny_pyNext_enum_itemD Dr he ⟨hit, p'⟩ hlt hne (by simp [hne, hae]) fun u' h' tk hP' ho hit' hT hsz hk => ?_
    have eu : u' = u := by
      have q : its.toArray[i]? = some u' := hP'
      have q2 : its.toArray[i]? = some u := by simpa using hu
      rw [q] at q2
      exact Option.some.inj q2
    subst eu
    refine ⟨_, rfl, wpAny_letOwnedTupleGo_enum (s := { s with heap := h', toks := tk + 1 }) ho fun h'' he' sb => ?_⟩
    have hT2 : h''.get? s.heap.objs.size = some { cls := .type "tuple", data := .seq #[.int i tk, u'] } := (sb.2 _ (Nat.ne_of_gt hel)).trans hT
    have new : ObjOk X.prog X.w (upd H s.heap.objs.size (.tup [.int (i : Nat), x])) h'' s.heap.objs.size (.tup [.int (i : Nat), x]) :=
      ⟨by show 2 ≤ sizeLine; decide, [.int i tk, u'], .cons ⟨_, rfl⟩ (.cons ru .nil), ⟨_, hT2, rfl, _, rfl⟩⟩
    have I1 : L2.Inv X pins σ (upd H s.heap.objs.size (.tup [.int (i : Nat), x])) { s with heap := h'', toks := tk + 1 } :=
      I.turnedNew (ch := [e, it]) (fun b ob hb q => (sb.2 b (fun z => hb (by simp [z]))).trans (hk b ob (fun z => hb (by simp [z])) (fun z => hb (by simp [z])) q)) hf (Nat.le_refl _) new
    refine ⟨.ref s.heap.objs.size, _, I1, rfl, ⟨_, x, rfl, I.hok.fresh (Nat.le_refl _), rfl, fun ys hy => by rw [I.tuple_inj hy hq]; exact hx⟩, ⟨⟨u', ?_⟩, hit'.1.at fun o q => (sb.2 it (Ne.symm hne)).trans q, hne, hai⟩, fun b hb => ?_⟩
    · have e1 : ((i + 1 : Nat) : Int) = (i : Int) + 1 := by omega
      rw [e1]; exact he'
    · have hb' : b < s.heap.objs.size := by
        have e' : b = e ∨ b = it := by simpa using hb
        rcases e' with z | z
        · rw [z]; exact hel
        · rw [z]; exact hil
      rw [upd_ne (Nat.ne_of_lt hb')]
      exact (hf b hb).1
  done := by
    intro X hP hw hK hc i pins s σ H E I hf st hg
    subst hP hw hK
    obtain ⟨⟨old, he⟩, hit, hne, hai⟩ := st
    obtain ⟨xs, hq, hx⟩ := hg
    obtain ⟨its, rv, p, hz⟩ := I.tuple hq
    obtain ⟨f0, f1, f2, f3, f4, f5⟩ := hf it (by simp)
    have hl := rv.length
    have Dr := Draws.tuple (prog := X.prog) (w := X.w) (A := X.A.in1) (I.ok.hd hc) it a hai its.toArray
    have p' : s.heap.IsTuple a its.toArray := p
    have hsz : i = its.toArray.size := by rw [List.size_toArray]; omega
    subst hsz
    exact wpAny_pyNext_enum_endD Dr he ⟨hit, p'⟩ fun h' eb => ⟨rfl, I.turned (t' := s.toks) (fun b o hb q => eb b o hb q) f0 f1 f3 f4 f5⟩
  self := fun A i s Q E st h => by
    obtain ⟨⟨_, he⟩, _⟩ := st
    exact wpAny_pyIter_enum he h
def iEnumT (K : PySem.W.Frag) (ta : TA) : TI := fun σ H R => ta σ H fun vs H1 => ∃ a xs, vs = [.ref a] ∧ SqT K H1 a xs ∧ R (IteT K a) H1
theorem pi_enumT {X : Cx} {e : Expr} {ta : TA} {p pos tpos : Pos} {elts : List Expr} {kk : Nat} (hg : Gl X "enumerate") (hm : X.mg "enumerate" = none) (ha : PA X [e] ta) (hs : starEach [e] X.env = [(false, eval e X.env)]) :
    PI X (.Tuple elts kk tpos) (.Call (.Name "enumerate" p) [e] [] pos) (iEnumT X.K ta) := by
  refine ⟨fun pins s σ H R I h => ?_⟩
  refine Call_ (ld_blt I hg hm boot_enumerate (PyProof.Rows.callWith_type1 (thn (ha.run pos pins s σ H _ I h) fun us s1 ⟨vs, H1, I1, r1, q1⟩ => ?_) hs rfl))
  obtain ⟨a, xs, ex, hq, q⟩ := q1
  subst ex
  cases r1 with
  | cons r rr =>
    cases rr
    cases r
    obtain ⟨its, rv, p', hz⟩ := I1.tuple hq
    have hal : a < s1.heap.objs.size := p'.lt
    refine enumCallTup (show s1.heap.IsTuple a its.toArray from p') fun h' he hit hsz hk => wpAny_pyIter_enum he ?_
    have I2 : L2.Inv X pins σ H1 { s1 with heap := h' } := I1.kept (t' := s1.toks) hk
    refine ⟨s1.heap.objs.size + 1, [s1.heap.objs.size + 1, s1.heap.objs.size], _, _, H1, rfl, I2, turnEnumT a (s1.heap.objs.size + 1) s1.heap.objs.size, ⟨⟨.none, he⟩, hit, Nat.succ_ne_self _, Nat.ne_of_lt hal⟩, fun b hb => ?_, q⟩
    have e' : b = s1.heap.objs.size + 1 ∨ b = s1.heap.objs.size := by simpa using hb
    have hle : s1.heap.objs.size ≤ b := by
      rcases e' with z | z
      · rw [z]; exact Nat.le_add_right _ _
      · rw [z]; exact Nat.le_refl _
    exact I1.fpOk hle (I1.hok.fresh hle)
end Pu
/-! ### targets, what is walked, comprehensions -/
namespace Pu
open PySem PySem.Spec PyProof.Rows L2

mutual
def tgS : Tg → List Nat
  | .name i => [i]
  | .tup ts => tgSs ts
def tgSs : List Tg → List Nat
  | [] => []
  | t :: ts => tgS t ++ tgSs ts
end
/-- only these names' states have changed -/
structure Onl (σ σ' : L2.St) (is : List Nat) : Prop where
  len : σ'.length = σ.length
  out : ∀ j, j ∉ is → σ'[j]? = σ[j]?
theorem Onl.refl (σ : L2.St) (is : List Nat) : Onl σ σ is := ⟨rfl, fun _ _ => rfl⟩
theorem Onl.trans {σ σ1 σ2 : L2.St} {is js : List Nat} (a : Onl σ σ1 is) (b : Onl σ1 σ2 js) : Onl σ σ2 (is ++ js) :=
  ⟨b.len.trans a.len, fun j hj => by
    rw [List.mem_append, not_or] at hj
    exact (b.out j hj.2).trans (a.out j hj.1)⟩
theorem Onl.set (σ : L2.St) (i : Nat) (x : Option V) : Onl σ (σ.set i x) [i] :=
  ⟨List.length_set, fun j hj => List.getElem?_set_ne (fun e => hj (by simp [e]))⟩
theorem wipe_in {σ : L2.St} {i : Nat} : ∀ {vs : List Nat}, i ∈ vs → i < σ.length → (wipe σ vs)[i]? = some none
  | [], h, _ => by cases h
  | v :: vs, h, hl => by
    show ((wipe σ vs).set v none)[i]? = some none
    by_cases hv : v = i
    · subst hv
      rw [List.getElem?_set_self (by rw [wipe_length]; exact hl)]
    · rw [List.getElem?_set_ne hv]
      rcases List.mem_cons.mp h with e | h
      · exact absurd e.symm hv
      · exact wipe_in h hl
theorem wipe_eq {σ σ' : L2.St} {vs : List Nat} (hl : σ'.length = σ.length) (h : ∀ j, j ∉ vs → σ'[j]? = σ[j]?) : wipe σ' vs = wipe σ vs := by
  apply List.ext_getElem?
  intro j
  by_cases hj : j ∈ vs
  · by_cases hlt : j < σ.length
    · rw [wipe_in hj hlt, wipe_in hj (by rw [hl]; exact hlt)]
    · rw [List.getElem?_eq_none (by rw [wipe_length, hl]; exact Nat.le_of_not_lt hlt), List.getElem?_eq_none (by rw [wipe_length]; exact Nat.le_of_not_lt hlt)]
  · rw [wipe_out hj, wipe_out hj, h j hj]
theorem Onl.wipe {σ σ' : L2.St} {is vs : List Nat} (h : Onl (wipe σ vs) σ' is) (s : ∀ i ∈ is, i ∈ vs) : L2.wipe σ' vs = L2.wipe σ vs :=
  wipe_eq (h.len.trans (wipe_length _ _)) fun j hj => by rw [h.out j fun z => hj (s j z), wipe_out hj]

def sG (X : Cx) (tg : Tg) : TG := fun v σ H Q => ∃ F0 B ρ F d ρ', Rel X.kk F0 B ρ σ F H ∧ DV X.K F v d ∧ bindT tg d ρ = some ρ' ∧ ∀ σ', Rel X.kk F0 B ρ' σ' F H → Onl σ σ' (tgS tg) → Q σ' H
def sGs (X : Cx) (tgs : List Tg) : TGs := fun vs σ H Q => ∃ F0 B ρ F ds ρ', Rel X.kk F0 B ρ σ F H ∧ DVs X.K F vs ds ∧ bindTs tgs ds ρ = some ρ' ∧ ∀ σ', Rel X.kk F0 B ρ' σ' F H → Onl σ σ' (tgSs tgs) → Q σ' H
theorem pgImp {X : Cx} {e : Expr} {t t' : TG} (h : PG X e t) (i : ∀ v σ H Q, t' v σ H Q → t v σ H Q) : PG X e t' := ⟨fun pins s σ H v u Q I r q => h.run pins s σ H v u Q I r (i v σ H Q q)⟩
theorem pgsImp {X : Cx} {e : List Expr} {t t' : TGs} (h : PGs X e t) (i : ∀ v σ H Q, t' v σ H Q → t v σ H Q) : PGs X e t' := ⟨fun pins s σ H v u Q I r q => h.run pins s σ H v u Q I r (i v σ H Q q)⟩
def nst : Expr → Bool
  | .Starred _ _ => false
  | _ => true
theorem star_ns {x : Expr} {xs : List Expr} {env : Env} (h : nst x = true) : starEach (x :: xs) env = (false, eval x env) :: starEach xs env := by
  cases x <;> first | rfl | cases h
theorem asg_ns {x : Expr} {xs : List Expr} {env : Env} (h : nst x = true) : assignEach (x :: xs) env = (false, assign x env) :: assignEach xs env := by
  cases x <;> first | rfl | cases h
theorem asg_len {env : Env} : ∀ {xs : List Expr}, xs.all nst = true → (assignEach xs env).length = xs.length ∧ (assignEach xs env).findIdx? (·.1) = none
  | [], _ => ⟨rfl, rfl⟩
  | x :: xs, h => by
    rw [List.all_cons, Bool.and_eq_true] at h
    obtain ⟨h1, h2⟩ := asg_len (env := env) h.2
    rw [asg_ns h.1]
    refine ⟨by rw [List.length_cons, List.length_cons, h1], ?_⟩
    rw [List.findIdx?_cons, h2]
    rfl
theorem any_ns {env : Env} {pos : Pos} : ∀ {xs : List Expr}, xs.all nst = true → (backTo pos (starEach xs env)).any (·.1) = false
  | [], _ => rfl
  | x :: xs, h => by
    rw [List.all_cons, Bool.and_eq_true] at h
    rw [star_ns h.1]
    show (false || (backTo pos (starEach xs env)).any (·.1)) = false
    rw [any_ns h.2]
    rfl
section
variable {X : Cx} {W : WX} {C : Nat → List D → Rs D} {a b c : E} {x y z : Expr} {pos : Pos}
theorem sg_name {i : Nat} {nm : Str} (hN : X.N.Nodup) (hi : X.N[i]? = some nm) (hx : Loc X.env.scope nm) (hf : X.fn nm = true ∨ X.env.scope.names.lookup nm = some .local) : PG X (.Name nm pos) (sG X (.name i)) :=
  pgImp (pg_name hN hi hx hf) fun v σ H Q ⟨F0, B, ρ, F, d, ρ', R, dv, e, q⟩ => by
    have e : some (ρ.set i (.val d)) = some ρ' := e
    cases e
    exact q _ (R.set i dv) (Onl.set _ _ _)
theorem sgs_nil : PGs X [] (sGs X []) := pgsImp pgs_nil fun vs σ H Q ⟨F0, B, ρ, F, ds, ρ', R, dv, e, q⟩ => by
  cases ds with
  | nil =>
    have e : some ρ = some ρ' := e
    cases e
    exact ⟨dv.unnil, q _ R (Onl.refl _ _)⟩
  | cons d ds => cases e
theorem sgs_cons {t : Tg} {ts : List Tg} {xs : List Expr} (h1 : PG X x (sG X t)) (h2 : PGs X xs (sGs X ts)) (hn : nst x = true) : PGs X (x :: xs) (sGs X (t :: ts)) :=
  pgsImp (pgs_cons h1 h2 (by rw [asg_ns hn]; rfl)) fun vs σ H Q ⟨F0, B, ρ, F, ds, ρ', R, dv, e, q⟩ => by
    cases ds with
    | nil => cases e
    | cons d ds =>
      have e : (bindT t d ρ).bind (fun ρ' => bindTs ts ds ρ') = some ρ' := e
      obtain ⟨ρ1, e1, e2⟩ := Option.bind_eq_some_iff.mp e
      obtain ⟨v, r, rfl, d1, d2⟩ := dv.uncons
      refine ⟨v, r, rfl, F0, B, ρ, F, d, ρ1, R, d1, e1, fun σ1 R1 o1 => ?_⟩
      exact ⟨F0, B, ρ1, F, ds, ρ', R1, d2, e2, fun σ2 R2 o2 => q σ2 R2 (o1.trans o2)⟩
theorem bindTs_len : ∀ {ts : List Tg} {ds : List D} {ρ ρ' : En}, bindTs ts ds ρ = some ρ' → ds.length = ts.length
  | [], [], _, _, _ => rfl
  | [], _ :: _, _, _, e => by cases e
  | _ :: _, [], _, _, e => by cases e
  | t :: ts, d :: ds, ρ, ρ', e => by
    have e : (bindT t d ρ).bind (fun ρ' => bindTs ts ds ρ') = some ρ' := e
    obtain ⟨ρ1, _, e2⟩ := Option.bind_eq_some_iff.mp e
    rw [List.length_cons, List.length_cons, bindTs_len e2]
theorem sg_tup {ts : List Tg} {xs : List Expr} {k : Nat} (hc : X.calm = true) (h : PGs X xs (sGs X ts)) (hn : xs.all nst = true) (hl : xs.length = ts.length) : PG X (.Tuple xs k pos) (sG X (.tup ts)) :=
  pgImp (pg_tup hc h ((asg_len hn).1) ((asg_len hn).2)) fun v σ H Q ⟨F0, B, ρ, F, d, ρ', R, dv, e, q⟩ => by
    match d, dv, e with
    | .tuple ds, dv, e =>
      have e : bindTs ts ds ρ = some ρ' := e
      obtain ⟨p, vs, rfl, h1, h2⟩ := dv.untup
      exact ⟨p, vs, rfl, sameT R.st.sub h1, by rw [h2.length, bindTs_len e, hl], F0, B, ρ, F, ds, ρ', R, h2, e, q⟩

/-! what is walked -/
structure Wk (K : PySem.W.Frag) (J : L2.It) (F : Hp) (xs : List D) : Prop where
  goes : ∀ i F1 H, i < xs.length → Same F F1 → Same F1 H → J.go i H
  stops : ∀ F1 H, Same F F1 → Same F1 H → J.stop xs.length H
  yields : ∀ i F1 H v H', i < xs.length → Same F F1 → Same F1 H → J.yld i H v H' → ∃ F' d, Stp F1 H F' H' ∧ xs[i]? = some d ∧ DV K F' v d
def sI (X : Cx) (W : WX) (C : Nat → List D → Rs D) (k : Ik) (src : List E) : TI := fun σ H R => ∃ F0 B ρ F, Rel X.kk F0 B ρ σ F H ∧ Pg X.mg W (fun F' J xs => Wk X.K J F' xs ∧ xs.length ≤ line) ((evs C src ρ).bind (items k)) σ F H R
theorem piInv {tg e : Expr} {wi : TI} (h : PI X tg e wi) : PI X tg e (fun σ H R => wi σ H fun J H1 => (∀ pins s, L2.Inv X pins σ H1 s → R J H1)) :=
  ⟨fun pins s σ H R I q => thn (h.run pins s σ H _ I q) fun v s1 h1 => thn h1 fun itv s2 ⟨it, fp, tn, J, H', e1, I2, T, t0, f, r⟩ => ⟨it, fp, tn, J, H', e1, I2, T, t0, f, r pins s2 I2⟩⟩
theorem wk_list {F : Hp} {p : Addr} {vs : List V} {ds : List D} (h : F p = some (.lst vs)) (dv : DVs X.K F vs ds) : Wk X.K (Itl X.K p) F ds where
  goes := fun i F1 H hi s1 s2 => ⟨vs, vs[i]'(by rw [dv.length]; exact hi), .of (s2 _ _ (s1 _ _ h)), by simp [dv.length, hi]⟩
  stops := fun F1 H s1 s2 => ⟨vs, .of (s2 _ _ (s1 _ _ h)), by rw [dv.length]; exact Nat.le_refl _⟩
  yields := fun i F1 H v H' hi s1 s2 y => by
    obtain ⟨rfl, y⟩ := y
    obtain ⟨u, e1, e2⟩ := dv.get (List.getElem?_eq_getElem hi)
    have q := y vs (.of (s2 _ _ (s1 _ _ h)))
    rw [e1] at q
    cases q
    exact ⟨F1, ds[i], Stp.refl s2, List.getElem?_eq_getElem hi, e2.mono s1⟩
theorem wk_tup {F : Hp} {p : Addr} {vs : List V} {ds : List D} (h : SqT X.K F p vs) (dv : DVs X.K F vs ds) : Wk X.K (Itt X.K p) F ds where
  goes := fun i F1 H hi s1 s2 => ⟨vs, vs[i]'(by rw [dv.length]; exact hi), sameT s2 (sameT s1 h), by simp [dv.length, hi]⟩
  stops := fun F1 H s1 s2 => ⟨vs, sameT s2 (sameT s1 h), by rw [dv.length]; exact Nat.le_refl _⟩
  yields := fun i F1 H v H' hi s1 s2 y => by
    obtain ⟨rfl, y⟩ := y
    obtain ⟨u, e1, e2⟩ := dv.get (List.getElem?_eq_getElem hi)
    have q := y vs (sameT s2 (sameT s1 h))
    rw [e1] at q
    cases q
    exact ⟨F1, ds[i], Stp.refl s2, List.getElem?_eq_getElem hi, e2.mono s1⟩
theorem wk_str {F : Hp} {t : Str} (ok : PyData.strOk t = true) : Wk X.K (Its t) F (t.cps.toList.map fun c => .str ⟨#[c]⟩) where
  goes := fun i F1 H hi s1 s2 => by
    show i < t.cps.size
    simpa using hi
  stops := fun F1 H s1 s2 => by
    show t.cps.size ≤ _
    simp
  yields := fun i F1 H v H' hi s1 s2 y => by
    obtain ⟨rfl, c, hc, rfl⟩ := y
    refine ⟨F1, .str ⟨#[c]⟩, Stp.refl s2, ?_, .str ?_⟩
    · rw [List.getElem?_map, Array.getElem?_toList, hc]; rfl
    · exact strOk_sub (l := [c]) ok fun c' hc' => by
        rw [List.mem_singleton.mp hc']
        exact List.mem_of_getElem? (by rw [Array.getElem?_toList]; exact hc)
theorem wk_range {F : Hp} {lo : Int} {n : Nat} : Wk X.K (Itr lo n) F ((List.range n).map fun (i : Nat) => .int (lo + (i : Int))) where
  goes := fun i F1 H hi s1 s2 => by
    show i < n
    simpa using hi
  stops := fun F1 H s1 s2 => by
    show n ≤ _
    simp
  yields := fun i F1 H v H' hi s1 s2 y => by
    obtain ⟨rfl, rfl⟩ := y
    have hi' : i < n := by simpa using hi
    exact ⟨F1, _, Stp.refl s2, by rw [List.getElem?_map, List.getElem?_range hi']; rfl, .int _⟩
theorem map_idx {α : Type} {xs : List D} {i : Nat} {f : Nat → D → α} (h : i < xs.length) : (xs.mapIdx f)[i]? = some (f i xs[i]) := by
  rw [List.getElem?_mapIdx, List.getElem?_eq_getElem h]
  rfl
theorem wk_enum {F : Hp} {p : Addr} {vs : List V} {ds : List D} (h : F p = some (.lst vs)) (dv : DVs X.K F vs ds) : Wk X.K (Ite X.K p) F (ds.mapIdx fun i x => .tuple [.int i, x]) where
  goes := fun i F1 H hi s1 s2 => by
    have hi : i < ds.length := by simpa using hi
    exact ⟨vs, vs[i]'(by rw [dv.length]; exact hi), .of (s2 _ _ (s1 _ _ h)), by simp [dv.length, hi]⟩
  stops := fun F1 H s1 s2 => ⟨vs, .of (s2 _ _ (s1 _ _ h)), by rw [dv.length]; simp⟩
  yields := fun i F1 H v H' hi s1 s2 y => by
    have hi : i < ds.length := by simpa using hi
    obtain ⟨T, x, rfl, hT, rfl, y⟩ := y
    obtain ⟨u, e1, e2⟩ := dv.get (List.getElem?_eq_getElem hi)
    have q := y vs (.of (s2 _ _ (s1 _ _ h)))
    rw [e1] at q
    cases q
    exact ⟨_, _, Stp.laid s2 hT _, map_idx hi, .newTup (.cons (.int _) (.cons (e2.mono s1) .nil)) (s2.free hT)⟩
theorem wk_enumT {F : Hp} {p : Addr} {vs : List V} {ds : List D} (h : SqT X.K F p vs) (dv : DVs X.K F vs ds) : Wk X.K (IteT X.K p) F (ds.mapIdx fun i x => .tuple [.int i, x]) where
  goes := fun i F1 H hi s1 s2 => by
    have hi : i < ds.length := by simpa using hi
    exact ⟨vs, vs[i]'(by rw [dv.length]; exact hi), sameT s2 (sameT s1 h), by simp [dv.length, hi]⟩
  stops := fun F1 H s1 s2 => ⟨vs, sameT s2 (sameT s1 h), by rw [dv.length]; simp⟩
  yields := fun i F1 H v H' hi s1 s2 y => by
    have hi : i < ds.length := by simpa using hi
    obtain ⟨T, x, rfl, hT, rfl, y⟩ := y
    obtain ⟨u, e1, e2⟩ := dv.get (List.getElem?_eq_getElem hi)
    have q := y vs (sameT s2 (sameT s1 h))
    rw [e1] at q
    cases q
    exact ⟨_, _, Stp.laid s2 hT _, map_idx hi, .newTup (.cons (.int _) (.cons (e2.mono s1) .nil)) (s2.free hT)⟩
theorem zip_at {xs ys : List D} {i : Nat} (h1 : i < xs.length) (h2 : i < ys.length) : (List.zipWith (fun x y => PyData.tuple [x, y]) xs ys)[i]? = some (.tuple [xs[i], ys[i]]) := by
  rw [List.getElem?_zipWith, List.getElem?_eq_getElem h1, List.getElem?_eq_getElem h2]
theorem wk_zip {F : Hp} {p p' : Addr} {vs ws : List V} {ds es : List D} (h : F p = some (.lst vs)) (dv : DVs X.K F vs ds) (h' : F p' = some (.lst ws)) (dw : DVs X.K F ws es) : Wk X.K (Itz X.K p p') F (List.zipWith (fun x y => .tuple [x, y]) ds es) where
  goes := fun i F1 H hi s1 s2 => by
    have hi : i < ds.length ∧ i < es.length := by simpa [Nat.lt_min] using hi
    exact ⟨vs, ws, vs[i]'(by rw [dv.length]; exact hi.1), ws[i]'(by rw [dw.length]; exact hi.2), .of (s2 _ _ (s1 _ _ h)), .of (s2 _ _ (s1 _ _ h')), by simp [dv.length, hi.1], by simp [dw.length, hi.2]⟩
  stops := fun F1 H s1 s2 => ⟨vs, ws, .of (s2 _ _ (s1 _ _ h)), .of (s2 _ _ (s1 _ _ h')), by rw [dv.length, dw.length, List.length_zipWith]; omega⟩
  yields := fun i F1 H v H' hi s1 s2 y => by
    have hi : i < ds.length ∧ i < es.length := by simpa [Nat.lt_min] using hi
    obtain ⟨T, x, z, rfl, hT, rfl, y1, y2⟩ := y
    obtain ⟨u, e1, e2⟩ := dv.get (List.getElem?_eq_getElem hi.1)
    obtain ⟨u', e1', e2'⟩ := dw.get (List.getElem?_eq_getElem hi.2)
    have q := y1 vs (.of (s2 _ _ (s1 _ _ h)))
    have q' := y2 ws (.of (s2 _ _ (s1 _ _ h')))
    rw [e1] at q
    rw [e1'] at q'
    cases q
    cases q'
    exact ⟨_, _, Stp.laid s2 hT _, zip_at hi.1 hi.2, .newTup (.cons (e2.mono s1) (.cons (e2'.mono s1) .nil)) (s2.free hT)⟩
theorem wk_zipT {F : Hp} {p p' : Addr} {vs ws : List V} {ds es : List D} (h : SqT X.K F p vs) (dv : DVs X.K F vs ds) (h' : SqT X.K F p' ws) (dw : DVs X.K F ws es) : Wk X.K (RZ.ItzT X.K p p') F (List.zipWith (fun x y => .tuple [x, y]) ds es) where
  goes := fun i F1 H hi s1 s2 => by
    have hi : i < ds.length ∧ i < es.length := by simpa [Nat.lt_min] using hi
    exact ⟨vs, ws, vs[i]'(by rw [dv.length]; exact hi.1), ws[i]'(by rw [dw.length]; exact hi.2), sameT s2 (sameT s1 h), sameT s2 (sameT s1 h'), by simp [dv.length, hi.1], by simp [dw.length, hi.2]⟩
  stops := fun F1 H s1 s2 => ⟨vs, ws, sameT s2 (sameT s1 h), sameT s2 (sameT s1 h'), by rw [dv.length, dw.length, List.length_zipWith]; omega⟩
  yields := fun i F1 H v H' hi s1 s2 y => by
    have hi : i < ds.length ∧ i < es.length := by simpa [Nat.lt_min] using hi
    obtain ⟨T, x, z, rfl, hT, rfl, y1, y2⟩ := y
    obtain ⟨u, e1, e2⟩ := dv.get (List.getElem?_eq_getElem hi.1)
    obtain ⟨u', e1', e2'⟩ := dw.get (List.getElem?_eq_getElem hi.2)
    have q := y1 vs (sameT s2 (sameT s1 h))
    have q' := y2 ws (sameT s2 (sameT s1 h'))
    rw [e1] at q
    rw [e1'] at q'
    cases q
    cases q'
    exact ⟨_, _, Stp.laid s2 hT _, zip_at hi.1 hi.2, .newTup (.cons (e2.mono s1) (.cons (e2'.mono s1) .nil)) (s2.free hT)⟩
theorem len_list {pins : List (Addr × Obj)} {σ : L2.St} {H : Hp} {s : Shared} {p : Addr} {vs : List V} (I : L2.Inv X pins σ H s) (h : H p = some (.lst vs)) : vs.length ≤ line := by
  obtain ⟨_, _, _, z⟩ := I.list (.of h)
  rw [sizeLine_eq] at z
  exact z
theorem len_tup {pins : List (Addr × Obj)} {σ : L2.St} {H : Hp} {s : Shared} {p : Addr} {vs : List V} (I : L2.Inv X pins σ H s) (h : SqT X.K H p vs) : vs.length ≤ line := by
  obtain ⟨_, _, _, z⟩ := I.tuple h
  rw [sizeLine_eq] at z
  exact z
theorem si_plain {tg : Expr} (h : PE X x (sE X W C a)) : PI X tg x (sI X W C .plain [a]) :=
  piImp (piOr (piInv (pi_list h)) (piOr (piInv (pi_tup h)) (pi_str h))) fun σ H Q ⟨F0, B, ρ, F, R, p⟩ => by
    have e : ((evs C [a] ρ).bind (items .plain)) = (ev C a ρ).bind fun d => items .plain [d] := by
      rw [evs, evs]
      cases ev C a ρ <;> rfl
    rw [e] at p
    cases e : ev C a ρ with
    | ok d =>
      match d, e with
      | .list ds, e =>
        refine .inl (sE_of R p fun d1 v1 F1 H1 e1 R1 st1 dv1 p1 => ?_)
        rw [e] at e1
        have e1 := okInj e1
        subst e1
        obtain ⟨q, vs, rfl, h1, h2⟩ := dv1.unlst
        refine ⟨q, rfl, ⟨vs, .of (R1.st.sub _ _ h1)⟩, fun pins s I => p1.done (Stp.refl R1.st.sub) ⟨wk_list h1 h2, ?_⟩⟩
        rw [← h2.length]
        exact len_list I (R1.st.sub _ _ h1)
      | .tuple ds, e =>
        refine .inr (.inl (sE_of R p fun d1 v1 F1 H1 e1 R1 st1 dv1 p1 => ?_))
        rw [e] at e1
        have e1 := okInj e1
        subst e1
        obtain ⟨q, vs, rfl, h1, h2⟩ := dv1.untup
        refine ⟨q, rfl, ⟨vs, sameT R1.st.sub h1⟩, fun pins s I => p1.done (Stp.refl R1.st.sub) ⟨wk_tup h1 h2, ?_⟩⟩
        rw [← h2.length]
        exact len_tup I (sameT R1.st.sub h1)
      | .str t, e =>
        refine .inr (.inr (sE_of R p fun d1 v1 F1 H1 e1 R1 st1 dv1 p1 => ?_))
        rw [e] at e1
        have e1 := okInj e1
        subst e1
        refine ⟨t, dv1.unstr.1, ?_⟩
        have p1 : Pg X.mg W (fun F' J xs => Wk X.K J F' xs ∧ xs.length ≤ line) (.guard (decide (t.length ≤ line)) (.ok (t.cps.toList.map fun c => .str ⟨#[c]⟩))) σ F1 H1 Q := p1
        cases g : decide (t.length ≤ line) with
        | true =>
          rw [g] at p1
          have g := of_decide_eq_true g
          exact p1.done (Stp.refl R1.st.sub) ⟨wk_str dv1.unstr.2, by rw [List.length_map, Array.length_toList]; exact g⟩
        | false => rw [g] at p1; exact p1.elim
      | .none, e => rw [e] at p; exact p.elim
      | .bool _, e => rw [e] at p; exact p.elim
      | .int _, e => rw [e] at p; exact p.elim
      | .dict _, e => rw [e] at p; exact p.elim
    | exc c =>
      rw [e] at p
      exact .inl ⟨F0, B, ρ, F, R, by rw [e]; exact p⟩
    | bad => rw [e] at p; exact p.elim
theorem in_rng {i : Int} (h : inRange i = true) : -(2 ^ 62) ≤ i ∧ i < 2 ^ 62 := by
  unfold inRange at h
  rw [Bool.and_eq_true] at h
  exact ⟨of_decide_eq_true h.1, of_decide_eq_true h.2⟩
theorem si_range1 {tg : Expr} {p : Pos} (hg : Gl X "range") (hm : X.mg "range" = none) (h : PA X [x] (sA X W C [a])) (hs : starEach [x] X.env = [(false, eval x X.env)]) : PI X tg (.Call (.Name "range" p) [x] [] pos) (sI X W C .range1 [a]) :=
  piImp (pi_range1 hg hm h hs) fun σ H Q ⟨F0, B, ρ, F, R, p⟩ => by
    refine sA_of R p fun ds vs F1 H1 _ R1 st1 dv1 p1 => ?_
    match ds, dv1, p1 with
    | [.int n], dv1, p1 =>
      obtain ⟨v, rfl, h1⟩ := dv1.one
      have p1 : Pg X.mg W (fun F' J xs => Wk X.K J F' xs ∧ xs.length ≤ line) (.guard (inRange n && decide (n.toNat ≤ line)) (.ok ((List.range n.toNat).map fun (i : Nat) => PyData.int (i : Int)))) σ F1 H1 Q := p1
      cases g : (inRange n && decide (n.toNat ≤ line)) with
      | true =>
        rw [g] at p1
        rw [Bool.and_eq_true] at g
        have g2 := of_decide_eq_true g.2
        refine ⟨n, by rw [h1.unint], (in_rng g.1).1, (in_rng g.1).2, p1.done (Stp.refl R1.st.sub) ⟨?_, by rw [List.length_map, List.length_range]; exact g2⟩⟩
        have w := wk_range (X := X) (F := F1) (lo := 0) (n := n.toNat)
        simp only [Int.zero_add] at w
        exact w
      | false => rw [g] at p1; exact p1.elim
theorem si_range2 {tg : Expr} {p : Pos} (hg : Gl X "range") (hm : X.mg "range" = none) (h : PA X [x, y] (sA X W C [a, b])) (hs : starEach [x, y] X.env = [(false, eval x X.env), (false, eval y X.env)]) (hs2 : starEach [y] X.env = [(false, eval y X.env)]) :
    PI X tg (.Call (.Name "range" p) [x, y] [] pos) (sI X W C .range2 [a, b]) :=
  piImp (pi_range2 hg hm h hs hs2) fun σ H Q ⟨F0, B, ρ, F, R, p⟩ => by
    refine sA_of R p fun ds vs F1 H1 _ R1 st1 dv1 p1 => ?_
    match ds, dv1, p1 with
    | [.int m, .int n], dv1, p1 =>
      obtain ⟨v, u, rfl, h1, h2⟩ := dv1.two
      have p1 : Pg X.mg W (fun F' J xs => Wk X.K J F' xs ∧ xs.length ≤ line) (.guard (inRange m && inRange n && decide ((n - m).toNat ≤ line)) (.ok ((List.range (n - m).toNat).map fun (i : Nat) => PyData.int (m + (i : Int))))) σ F1 H1 Q := p1
      cases g : (inRange m && inRange n && decide ((n - m).toNat ≤ line)) with
      | true =>
        rw [g] at p1
        rw [Bool.and_eq_true, Bool.and_eq_true] at g
        have g2 := of_decide_eq_true g.2
        exact ⟨m, n, by rw [h1.unint, h2.unint], ⟨(in_rng g.1.1).1, (in_rng g.1.1).2, (in_rng g.1.2).1, (in_rng g.1.2).2⟩, p1.done (Stp.refl R1.st.sub) ⟨wk_range, by rw [List.length_map, List.length_range]; exact g2⟩⟩
      | false => rw [g] at p1; exact p1.elim
theorem si_enum {xs : List Expr} {k : Nat} {p tpos : Pos} (hg : Gl X "enumerate") (hm : X.mg "enumerate" = none) (h : PA X [x] (sA X W C [a])) (hs : starEach [x] X.env = [(false, eval x X.env)]) :
    PI X (.Tuple xs k tpos) (.Call (.Name "enumerate" p) [x] [] pos) (sI X W C .enum [a]) :=
  piImp (piOr (piInv (pi_enum hg hm h hs)) (piInv (pi_enumT hg hm h hs))) fun σ H Q ⟨F0, B, ρ, F, R, p⟩ => by
    cases e : evs C [a] ρ with
    | ok ds =>
      have e0 := e
      rw [e] at p
      match ds, e, p with
      | [.list ds], e, p =>
        refine .inl (sA_of R (by rw [e]; exact p) fun d1 v1 F1 H1 e1 R1 st1 dv1 p1 => ?_)
        rw [e] at e1
        have e1 := okInj e1
        subst e1
        obtain ⟨v, rfl, dv2⟩ := dv1.one
        obtain ⟨q, vs, rfl, h1, h2⟩ := dv2.unlst
        refine ⟨q, vs, rfl, .of (R1.st.sub _ _ h1), fun pins s I => p1.done (Stp.refl R1.st.sub) ⟨wk_enum h1 h2, ?_⟩⟩
        rw [List.length_mapIdx, ← h2.length]
        exact len_list I (R1.st.sub _ _ h1)
      | [.tuple ds], e, p =>
        refine .inr (sA_of R (by rw [e]; exact p) fun d1 v1 F1 H1 e1 R1 st1 dv1 p1 => ?_)
        rw [e] at e1
        have e1 := okInj e1
        subst e1
        obtain ⟨v, rfl, dv2⟩ := dv1.one
        obtain ⟨q, vs, rfl, h1, h2⟩ := dv2.untup
        refine ⟨q, vs, rfl, sameT R1.st.sub h1, fun pins s I => p1.done (Stp.refl R1.st.sub) ⟨wk_enumT h1 h2, ?_⟩⟩
        rw [List.length_mapIdx, ← h2.length]
        exact len_tup I (sameT R1.st.sub h1)
    | exc c =>
      rw [e] at p
      exact .inl ⟨F0, B, ρ, F, R, by rw [e]; exact p⟩
    | bad => rw [e] at p; exact p.elim
theorem si_zip {xs : List Expr} {k : Nat} {p tpos : Pos} (hg : Gl X "zip") (hm : X.mg "zip" = none) (h : PA X [x, y] (sA X W C [a, b])) (hs : starEach [x, y] X.env = (false, eval x X.env) :: starEach [y] X.env) (hpl : (backTo pos (starEach [y] X.env)).any (·.1) = false) :
    PI X (.Tuple xs k tpos) (.Call (.Name "zip" p) [x, y] [] pos) (sI X W C .zip [a, b]) :=
  piImp (piInv (RZ.pi_zipA hg hm h hs hpl)) fun σ H Q ⟨F0, B, ρ, F, R, p⟩ => by
    refine sA_of R p fun ds vs F1 H1 _ R1 st1 dv1 p1 => ?_
    match ds, dv1, p1 with
    | [.list ds, .list es], dv1, p1 =>
      obtain ⟨v, u, rfl, d1, d2⟩ := dv1.two
      obtain ⟨q, vs, rfl, h1, h2⟩ := d1.unlst
      obtain ⟨q', ws, rfl, h3, h4⟩ := d2.unlst
      refine ⟨q, q', vs, ws, rfl, .inl ⟨.of (R1.st.sub _ _ h1), .of (R1.st.sub _ _ h3), fun pins s I => p1.done (Stp.refl R1.st.sub) ⟨wk_zip h1 h2 h3 h4, ?_⟩⟩⟩
      have z := len_list I (R1.st.sub _ _ h1)
      rw [h2.length] at z
      rw [List.length_zipWith]
      omega
    | [.tuple ds, .tuple es], dv1, p1 =>
      obtain ⟨v, u, rfl, d1, d2⟩ := dv1.two
      obtain ⟨q, vs, rfl, h1, h2⟩ := d1.untup
      obtain ⟨q', ws, rfl, h3, h4⟩ := d2.untup
      refine ⟨q, q', vs, ws, rfl, .inr ⟨sameT R1.st.sub h1, sameT R1.st.sub h3, fun pins s I => p1.done (Stp.refl R1.st.sub) ⟨wk_zipT h1 h2 h3 h4, ?_⟩⟩⟩
      have z := len_tup I (sameT R1.st.sub h1)
      rw [h2.length] at z
      rw [List.length_zipWith]
      omega
end
end Pu
/-! ### comprehensions, statements -/
namespace Pu
open PySem PySem.Spec PyProof.Rows L2

abbrev W0 : WX := fun _ _ _ _ => False
def sTs (X : Cx) (W : WX) (C : Nat → List D → Rs D) (es : List E) : TT := fun σ H Q => ∃ F0 B ρ F, Rel X.kk F0 B ρ σ F H ∧ Pg X.mg W (fun _ b k => b = k) (evT C es ρ) σ F H Q
theorem ptsImp {X : Cx} {e : List Expr} {t t' : TT} (h : PTs X e t) (i : ∀ σ H Q, t' σ H Q → t σ H Q) : PTs X e t' := ⟨fun pins s σ H Q I q => h.run pins s σ H Q I (i σ H Q q)⟩
section
variable {X : Cx} {W : WX} {C : Nat → List D → Rs D} {a b c : E} {x y z : Expr} {pos : Pos} {K : PySem.W.Frag} {mg : Str → Option Value}
theorem sts_nil : PTs X [] (sTs X W C []) := ptsImp pts_nil fun σ H Q ⟨F0, B, ρ, F, R, p⟩ => by
  rw [evT] at p
  exact p.done (Stp.refl R.st.sub) rfl
theorem sts_one (h : PT X x (sT X W C a)) : PTs X [x] (sTs X W C [a]) := ptsImp (pts_one h) fun σ H Q ⟨F0, B, ρ, F, R, p⟩ => by
  refine ⟨F0, B, ρ, F, R, ?_⟩
  have e : evT C [a] ρ = (ev C a ρ).bind truth := by
    rw [evT]
    cases ev C a ρ with
    | ok d =>
      show ((truth d).bind fun k => if k = true then evT C [] ρ else .ok false) = truth d
      cases truth d with
      | ok k => cases k <;> simp [evT]
      | exc c => rfl
      | bad => rfl
    | exc c => rfl
    | bad => rfl
  rw [e] at p
  exact p
theorem Pl.step {r : Rs D} {σ : L2.St} {F H F' H' : Hp} {Q : VK} (h : Pl mg W K r σ F H Q) (st : Stp F H F' H') : Pl mg W K r σ F' H' Q := by
  cases r with
  | ok d =>
    cases d with
    | list ds =>
      intro v H2 ⟨p, vs, F2, e, s2, h1, h2, h3, h4⟩
      exact h v H2 ⟨p, vs, F2, e, st.trans s2, h1, st.sH.free h2, h3, h4⟩
    | none => exact h
    | bool _ => exact h
    | int _ => exact h
    | str _ => exact h
    | tuple _ => exact h
    | dict _ => exact h
  | exc c => exact fun A F2 H2 m s => h A F2 H2 m (st.trans s)
  | bad => exact h
theorem pl_of {α β : Type} {rel : Hp → β → α → Prop} {r : Rs α} {k : α → Rs D} {σ : L2.St} {F H : Hp} {Q : VK} {Q' : β → Hp → Prop} (h : Pl mg W K (r.bind k) σ F H Q)
    (hk : ∀ d v F' H', r = .ok d → Stp F H F' H' → rel F' v d → Pl mg W K (k d) σ F' H' Q → Q' v H') : Pg mg W rel r σ F H Q' := by
  cases r with
  | ok d => exact fun v F2 H2 s e => hk d v F2 H2 rfl s e (Pl.step h s)
  | exc c => exact h
  | bad => exact h
/-- what a comprehension does with one item -/
def turnC (C : Nat → List D → Rs D) (elt : E) (tg : Tg) (test : List E) (own : List Nat) (ρ : En) (x : D) : Rs (Option D) :=
  (Rs.ofO (bindT tg x (killS ρ own))).bind fun ρ' => (evT C test ρ').bind fun k => if k then (ev C elt ρ').bind fun y => .ok (some y) else .ok none
theorem compL_cons {f : D → Rs (Option D)} {x : D} {xs zs : List D} (h : compL f (x :: xs) = .ok zs) : ∃ o ys, f x = .ok o ∧ compL f xs = .ok ys ∧ zs = (match o with | some y => y :: ys | none => ys) := by
  obtain ⟨o, h1, h⟩ := bind_inv (show (f x).bind _ = .ok zs from h)
  obtain ⟨ys, h2, h⟩ := bind_inv h
  exact ⟨o, ys, h1, h2, (okInj h).symm⟩
/-- behind some items -/
structure CpInv (K : PySem.W.Frag) (f : D → Rs (Option D)) (xs total : List D) (F1 H1 : Hp) (A : Addr) (i : Nat) (H : Hp) : Prop where
  ex : ∃ F' acc ys zs, Stp F1 H1 F' H ∧ F' A = none ∧ H A = some (.lst acc) ∧ DVs K F' acc ys ∧ ys.length ≤ i ∧ compL f (xs.drop i) = .ok zs ∧ total = ys ++ zs
theorem lc_read {e : E} {tg : Tg} {k : Ik} {src test : List E} {own : List (Str × Nat)} (ho : ∀ i ∈ tgS tg, i ∈ own.map (·.2)) : ∀ σ H Q, sL X W C (.comp e tg k src test (own.map (·.2))) σ H Q →
    tLc (sI X W C k src) (sG X tg) (sTs X W0 C test) (sE X W0 C e) (own.map (·.2)) σ H Q :=
  fun σ H Q ⟨F0, B, ρ, F, R, p⟩ => by
    rw [ev] at p
    have p' : Pl X.mg W X.K (((evs C src ρ).bind (items k)).bind fun xs => (Rs.calm (compL (turnC C e tg test (own.map (·.2)) ρ) xs)).bind fun ys => .ok (.list ys)) σ F H Q := by
      rw [bind_assoc]
      exact p
    refine ⟨F0, B, ρ, F, R, pl_of p' fun xs J F1 H1 _ st1 ⟨wk, hlen⟩ p1 A hA => ?_⟩
    have R1 := R.step st1
    cases e1 : compL (turnC C e tg test (own.map (·.2)) ρ) xs with
    | exc c => rw [e1] at p1; exact p1.elim
    | bad => rw [e1] at p1; exact p1.elim
    | ok total =>
      rw [e1] at p1
      refine ⟨fun i m H' => m = xs.length - i ∧ i ≤ xs.length ∧ CpInv X.K (turnC C e tg test (own.map (·.2)) ρ) xs total F1 H1 A i H', ⟨xs.length, by simp, Nat.zero_le _, ⟨F1, [], [], total, Stp.junk R1.st.sub hA _, R1.st.sub.free hA, upd_same, .nil, Nat.le_refl _, e1, rfl⟩⟩, ?_⟩
      rintro i m H2 ⟨rfl, hi, ⟨F2, acc, ys, zs, st2, fA, hAl, dv, hy, ec, et⟩⟩
      have R2 := R1.step st2
      by_cases hlt : i < xs.length
      · refine .inr ⟨wk.goes i F2 H2 hlt st2.sF st2.sub, fun H' => CpInv X.K (turnC C e tg test (own.map (·.2)) ρ) xs total F1 H1 A (i + 1) H', fun H' q => ⟨xs.length - (i + 1), by omega, rfl, hlt, q⟩, fun v H3 hy3 => ?_⟩
        obtain ⟨F3, d, st3, e3, dv3⟩ := wk.yields i F2 H2 v H3 hlt st2.sF st2.sub hy3
        rw [List.drop_eq_getElem_cons hlt] at ec
        obtain ⟨o, ys', eo, ec', ez⟩ := compL_cons ec
        have ed : xs[i] = d := by
          rw [List.getElem?_eq_getElem hlt] at e3
          exact Option.some.inj e3
        rw [ed] at eo
        obtain ⟨ρ', eb, eo⟩ := bind_inv eo
        have R3 := (R2.step st3).wipes (is := own.map (·.2))
        refine ⟨F0, B, killS ρ (own.map (·.2)), F3, d, ρ', R3, dv3, ofO_inv eb, fun σ4 R4 o4 => ⟨o4.wipe ho, ?_⟩⟩
        have stA : ∀ {F' H' : Hp}, Stp F3 H3 F' H' → F' A = none ∧ H' A = some (.lst acc) := fun {F' H'} st => by
          have st' := st3.trans st
          refine ⟨?_, st'.sH _ _ hAl⟩
          cases q : F' A with
          | none => rfl
          | some u =>
            rcases st'.new A u q with z | z
            · rw [fA] at z; cases z
            · rw [hAl] at z; cases z
        obtain ⟨kb, ek, eo⟩ := bind_inv eo
        refine ⟨F0, B, ρ', F3, R4, ?_⟩
        rw [ek]
        intro b F5 H5 st5 eb5
        have eb5 : b = kb := eb5
        subst eb5
        have R5 := R4.step st5
        cases b with
        | false =>
          rw [if_neg Bool.false_ne_true] at eo ⊢
          have eo := okInj eo
          subst eo
          obtain ⟨a1, a2⟩ := stA st5
          exact ⟨F5, acc, ys, zs, st2.trans (st3.trans st5), a1, a2, dv.mono (st3.sF.trans st5.sF), Nat.le_succ_of_le hy, by rw [ec', ez], et⟩
        | true =>
          rw [if_pos rfl] at eo ⊢
          obtain ⟨y, ey, eo⟩ := bind_inv eo
          have eo := okInj eo
          subst eo
          refine ⟨F0, B, ρ', F5, R5, ?_⟩
          rw [ey]
          intro u F6 H6 st6 dv6
          obtain ⟨a1, a2⟩ := stA (st5.trans st6)
          refine ⟨acc, a2, by rw [dv.length, sizeLine_eq]; exact Nat.lt_of_lt_of_le (Nat.lt_of_le_of_lt hy hlt) hlen, ?_⟩
          have st16 := st2.trans (st3.trans (st5.trans st6))
          have hA1 : ∀ o, H1 A ≠ some o := fun o z => by rw [hA] at z; cases z
          refine ⟨F6, acc ++ [u], ys ++ [y], ys', ⟨fun b o z => ?_, st16.sF, fun b o z => ?_, st16.new⟩, a1, upd_same, ?_, by rw [List.length_append]; exact Nat.succ_le_succ hy, ec', by rw [et, ez, List.append_assoc]; rfl⟩
          · rw [upd_ne (fun q => by rw [q] at z; exact hA1 o z)]
            exact st16.sH b o z
          · rw [upd_ne (fun q => by rw [q, a1] at z; cases z)]
            exact st16.sub b o z
          · exact (dv.mono (st3.sF.trans (st5.sF.trans st6.sF))).append (.cons dv6 .nil)
      · have e : i = xs.length := by omega
        subst e
        refine .inl ⟨wk.stops F2 H2 st2.sF st2.sub, ?_⟩
        rw [List.drop_eq_nil_of_le (Nat.le_refl _)] at ec
        have ec := okInj ec
        subst ec
        rw [List.append_nil] at et
        subst et
        exact p1 _ _ ⟨A, acc, F2, rfl, st2, fA, hA, hAl, dv⟩
theorem sl_comp {elt : Expr} {e : E} {tge iter : Expr} {tg : Tg} {k : Ik} {src test : List E} {ifs : List Expr} {scope : Scope} {own : List (Str × Nat)} (hc : X.calm = true) (hN : X.N.Nodup) (hi : PI X tge iter (sI X W C k src)) (ok : BlkOk X.N X.env.scope scope own)
    (hg : ∀ (s : Shared) (H : Hp) (Cc : Addr) (cl : List (Str × Addr)) (fp : List Addr), PG (X.blk s H scope (compEnvC scope cl Cc X.env) fp) tge (sG X tg))
    (ht : ∀ (s : Shared) (H : Hp) (Cc : Addr) (cl : List (Str × Addr)) (fp : List Addr), PTs (X.blk s H scope (compEnvC scope cl Cc X.env) fp) ifs (sTs X W0 C test))
    (he : ∀ (s : Shared) (H : Hp) (Cc : Addr) (cl : List (Str × Addr)) (fp : List Addr), PE (X.blk s H scope (compEnvC scope cl Cc X.env) fp) elt (sE X W0 C e))
    (hs : ∀ v, foldedSetIterable iter X.env v = pure v) (ho : ∀ i ∈ tgS tg, i ∈ own.map (·.2)) : PE X (.ListComp elt [⟨tge, iter, ifs, 0⟩] scope pos) (sL X W C (.comp e tg k src test (own.map (·.2)))) :=
  peImp (pe_lc hc hN hi ok hg ht he hs) (lc_read ho)
theorem comp_lists {e : E} {tg : Tg} {k : Ik} {src test : List E} {own : List Nat} (ρ : En) (d : D) (h : ev C (.comp e tg k src test own) ρ = .ok d) : ∃ ds, d = .list ds := by
  rw [ev] at h
  obtain ⟨ds, _, h⟩ := bind_inv h
  obtain ⟨xs, _, h⟩ := bind_inv h
  obtain ⟨ys, _, h⟩ := bind_inv h
  exact ⟨ys, (okInj h).symm⟩
/-- a + b of lists, the new list as one of its own -/
theorem sl_add (ha : PE X x (sE X W C a)) (hb : PE X y (sE X W C b)) : PE X (.BinOp x .Add y pos) (sL X W C (.bin .add a b)) :=
  peImp (pe_op op_cat ha hb) fun σ H Q ⟨F0, B, ρ, F, R, p⟩ => by
    rw [ev] at p
    refine ⟨F0, B, ρ, F, R, pl_of p fun d1 v1 F1 H1 e1 st1 dv1 p1 => ?_⟩
    have R1 := R.step st1
    refine ⟨F0, B, ρ, F1, R1, pl_of p1 fun d2 v2 F2 H2 e2 st2 dv2 p2 => ?_⟩
    have R2 := R1.step st2
    match d1, d2, dv1, dv2, p2 with
    | .list xs, .list ys, dv1, dv2, p2 =>
      have p2 : Pl X.mg W X.K (.guard (decide (xs.length + ys.length ≤ line)) (.ok (.list (xs ++ ys)))) σ F2 H2 Q := p2
      cases g : decide (xs.length + ys.length ≤ line) with
      | false => rw [g] at p2; exact p2.elim
      | true =>
        rw [g] at p2
        obtain ⟨q, vs, rfl, h1, h2⟩ := dv1.unlst
        obtain ⟨q', ws, rfl, h3, h4⟩ := dv2.unlst
        refine ⟨q, q', vs, ws, rfl, rfl, R2.st.sub _ _ (st2.sF _ _ h1), R2.st.sub _ _ h3, by rw [h2.length, h4.length, sizeLine_eq]; exact of_decide_eq_true g, fun r hr => ?_⟩
        exact p2 _ _ ⟨r, vs ++ ws, F2, rfl, Stp.junk R2.st.sub hr _, R2.st.sub.free hr, hr, upd_same, (h2.mono st2.sF).append h4⟩
    | .none, d2, dv1, dv2, p2 => exact p2.elim
    | .bool _, d2, dv1, dv2, p2 => exact p2.elim
    | .dict _, d2, dv1, dv2, p2 => exact p2.elim
    | .int _, .int _, dv1, dv2, p2 => exact p2.elim
    | .int _, .none, dv1, dv2, p2 => exact p2.elim
    | .int _, .bool _, dv1, dv2, p2 => exact p2.elim
    | .int _, .str _, dv1, dv2, p2 => exact p2.elim
    | .int _, .list _, dv1, dv2, p2 => exact p2.elim
    | .int _, .tuple _, dv1, dv2, p2 => exact p2.elim
    | .int _, .dict _, dv1, dv2, p2 => exact p2.elim
    | .str s1, .str s2, dv1, dv2, p2 =>
      have p2 : Pl X.mg W X.K (.guard (decide (s1.length + s2.length ≤ line)) (.ok (.str (s1 ++ s2)))) σ F2 H2 Q := p2
      cases g : decide (s1.length + s2.length ≤ line) with
      | false => rw [g] at p2; exact p2.elim
      | true => rw [g] at p2; exact p2.elim
    | .str _, .none, dv1, dv2, p2 => exact p2.elim
    | .str _, .bool _, dv1, dv2, p2 => exact p2.elim
    | .str _, .int _, dv1, dv2, p2 => exact p2.elim
    | .str _, .list _, dv1, dv2, p2 => exact p2.elim
    | .str _, .tuple _, dv1, dv2, p2 => exact p2.elim
    | .str _, .dict _, dv1, dv2, p2 => exact p2.elim
    | .tuple s1, .tuple s2, dv1, dv2, p2 =>
      have p2 : Pl X.mg W X.K (.guard (decide (s1.length + s2.length ≤ line)) (.ok (.tuple (s1 ++ s2)))) σ F2 H2 Q := p2
      cases g : decide (s1.length + s2.length ≤ line) with
      | false => rw [g] at p2; exact p2.elim
      | true => rw [g] at p2; exact p2.elim
    | .tuple _, .none, dv1, dv2, p2 => exact p2.elim
    | .tuple _, .bool _, dv1, dv2, p2 => exact p2.elim
    | .tuple _, .int _, dv1, dv2, p2 => exact p2.elim
    | .tuple _, .list _, dv1, dv2, p2 => exact p2.elim
    | .tuple _, .str _, dv1, dv2, p2 => exact p2.elim
    | .tuple _, .dict _, dv1, dv2, p2 => exact p2.elim
    | .list _, .none, dv1, dv2, p2 => exact p2.elim
    | .list _, .bool _, dv1, dv2, p2 => exact p2.elim
    | .list _, .int _, dv1, dv2, p2 => exact p2.elim
    | .list _, .tuple _, dv1, dv2, p2 => exact p2.elim
    | .list _, .str _, dv1, dv2, p2 => exact p2.elim
    | .list _, .dict _, dv1, dv2, p2 => exact p2.elim
end
end Pu
/-! ### statements -/
namespace Pu
open PySem PySem.Spec PyProof.Rows L2

/-- what is wanted behind a flow -/
def Agr (ws : List Nat) (σ σ' : L2.St) : Prop := ∀ j, j ∉ ws → σ'[j]? = σ[j]?
mutual
def wrS : S → List Nat
  | .set i _ => [i]
  | .own i _ => [i]
  | .unp tg _ => tgS tg
  | .par i j _ _ _ _ => [i, j]
  | .frz _ s => wrS s
  | .loop tg _ _ body _ => tgS tg ++ wrSs body
  | .whl _ _ body _ => wrSs body
  | .iff _ a b => wrSs a ++ wrSs b
  | .dct i _ => [i]
  | .tryw _ b => wrSs b
  | _ => []
def wrSs : List S → List Nat
  | [] => []
  | m :: ms => wrS m ++ wrSs ms
end
def Pf (K : KK) (mg : Str → Option Value) (W : WX) (F0 B : Hp) (σ0 : L2.St) (ws : List Nat) (D : Ends) : Fl → Prop
  | .next ρ => ∀ σ F H, Rel K F0 B ρ σ F H → Agr ws σ0 σ → D.nx σ H
  | .ret d => ∀ v F H, Stp F0 B F H → DV K F v d → D.rt v H
  | .exc c => ∀ A σ F H, mg c = some (.ref A) → Stp F0 B F H → W (.ref A) none σ H
  | .bad => False
section
variable {K : KK} {mg : Str → Option Value} {W : WX} {F0 F1 B F H : Hp} {ρ : En} {σ : L2.St} {D D' : Ends} {σ0 : L2.St} {ws : List Nat}
theorem Stp.base (h : Stp F1 B F H) (g : Stp F0 B F1 H) : Stp F0 B F H := ⟨h.sH, g.sF.trans h.sF, h.sub, fun b o e => by
  rcases h.new b o e with z | z
  · exact g.new b o z
  · exact .inr z⟩
/-- what is told at F1 was told before, or is new -/
structure Bs (F0 B F1 : Hp) : Prop where
  sF : Same F0 F1
  new : ∀ b o, F1 b = some o → F0 b = some o ∨ B b = none
theorem Bs.of (h : Stp F0 B F H) : Bs F0 B F := ⟨h.sF, h.new⟩
theorem Stp.bs (g : Bs F0 B F1) (h : Stp F1 B F H) : Stp F0 B F H := ⟨h.sH, g.sF.trans h.sF, h.sub, fun b o e => by
  rcases h.new b o e with z | z
  · exact g.new b o z
  · exact .inr z⟩
theorem Rel.bs (g : Bs F0 B F1) (R : Rel K F1 B ρ σ F H) : Rel K F0 B ρ σ F H := ⟨R.st.bs g, R.len, R.sl, R.ob, R.ap⟩
theorem Rel.here (R : Rel K F0 B ρ σ F H) : Rel K F B ρ σ F H := ⟨⟨R.st.sH, Same.refl _, R.st.sub, fun _ _ e => .inl e⟩, R.len, R.sl, R.ob, R.ap⟩
theorem Agr.refl (ws : List Nat) (σ : L2.St) : Agr ws σ σ := fun _ _ => rfl
theorem Agr.trans {ws vs : List Nat} {σ σ1 σ2 : L2.St} (a : Agr ws σ σ1) (b : Agr vs σ1 σ2) : Agr (ws ++ vs) σ σ2 := fun j hj => by
  rw [List.mem_append, not_or] at hj
  exact (b j hj.2).trans (a j hj.1)
theorem Agr.sub {ws vs : List Nat} {σ σ1 : L2.St} (a : Agr ws σ σ1) (h : ∀ i ∈ ws, i ∈ vs) : Agr vs σ σ1 := fun j hj => a j fun z => hj (h j z)
theorem Agr.set {ws : List Nat} {σ σ1 : L2.St} {i : Nat} {x : Option V} (a : Agr ws σ σ1) (h : i ∈ ws) : Agr ws σ (σ1.set i x) := fun j hj => by
  rw [List.getElem?_set_ne (fun e => hj (by rw [← e]; exact h))]
  exact a j hj
theorem Agr.onl {σ σ1 : L2.St} {is : List Nat} (h : Onl σ σ1 is) : Agr is σ σ1 := h.out
theorem mem_twice {t b : List Nat} : ∀ i ∈ t ++ b ++ t ++ b, i ∈ t ++ b := fun i hi => by
  rcases List.mem_append.mp hi with h | h
  · rcases List.mem_append.mp h with h | h
    · exact h
    · exact List.mem_append.mpr (.inl h)
  · exact List.mem_append.mpr (.inr h)
/-- from a later state on -/
theorem Pf.wk {K : KK} {mg : Str → Option Value} {W : WX} {F0 B : Hp} {σ σ' : L2.St} {ws vs us : List Nat} {D : Ends} {r : Fl} (h : Pf K mg W F0 B σ us D r) (a : Agr ws σ σ') (hs : ∀ i, i ∈ ws ∨ i ∈ vs → i ∈ us) : Pf K mg W F0 B σ' vs D r := by
  cases r with
  | next ρ => exact fun σ2 F H R b => h σ2 F H R ((a.trans b).sub fun i hi => hs i (List.mem_append.mp hi))
  | ret d => exact h
  | exc c => exact h
  | bad => exact h
theorem fl_of {α β : Type} {rel : Hp → β → α → Prop} {r : Rs α} {k : α → Fl} {Q : β → Hp → Prop} (R : Rel K F0 B ρ σ F H) (h : Pf K mg W F0 B σ0 ws D (r.fl k))
    (hk : ∀ d v F' H', r = .ok d → Stp F H F' H' → rel F' v d → Pf K mg W F0 B σ0 ws D (k d) → Q v H') : Pg mg W rel r σ F H Q := by
  cases r with
  | ok d => exact fun v F' H' st e => hk d v F' H' rfl st e h
  | exc c => exact fun A F' H' m st => h A σ F' H' m (R.st.trans st)
  | bad => exact h
theorem fl_assoc {α β : Type} (r : Rs α) (f : α → Rs β) (g : β → Fl) : (r.bind f).fl g = r.fl fun a => (f a).fl g := by cases r <;> rfl
end
def sS (X : Cx) (W : WX) (C : Nat → List D → Rs D) (m : S) : TS := fun D σ H => ∃ F0 B ρ F, Rel X.kk F0 B ρ σ F H ∧ Pf X.kk X.mg W F0 B σ (wrS m) D (evS C m ρ)
def sSs (X : Cx) (W : WX) (C : Nat → List D → Rs D) (m : List S) : TS := fun D σ H => ∃ F0 B ρ F, Rel X.kk F0 B ρ σ F H ∧ Pf X.kk X.mg W F0 B σ (wrSs m) D (evSs C m ρ)
theorem psImp {X : Cx} {e : Stmt} {t t' : TS} (h : PS X e t) (i : ∀ D σ H, t' D σ H → t D σ H) : PS X e t' := ⟨fun pins s σ H D I q => h.run pins s σ H D I (i D σ H q)⟩
theorem pssImp {X : Cx} {e : List Stmt} {t t' : TS} (h : PSs X e t) (i : ∀ D σ H, t' D σ H → t D σ H) : PSs X e t' := ⟨fun pins s σ H D I q => h.run pins s σ H D I (i D σ H q)⟩
section
variable {X : Cx} {W : WX} {C : Nat → List D → Rs D} {a b c : E} {x y z : Expr} {st : Stmt} {pos : Pos} {te : TE} {m : S} {ms ns : List S} {xs ys : List Stmt}
theorem sE_to (hl : ∀ ρ d, ev C a ρ = .ok d → ∃ ds, d = .list ds) : ∀ σ H Q, sE X W C a σ H Q → sL X W C a σ H Q := fun σ H Q ⟨F0, B, ρ, F, R, p⟩ => by
  refine ⟨F0, B, ρ, F, R, ?_⟩
  cases e : ev C a ρ with
  | ok d =>
    rw [e] at p
    obtain ⟨ds, rfl⟩ := hl ρ d e
    intro v H' nl
    obtain ⟨F', st, dv⟩ := nl.val
    exact p v F' H' st dv
  | exc c => rw [e] at p; exact p
  | bad => rw [e] at p; exact p
theorem ss_nil : PSs X [] (sSs X W C []) := pssImp pss_nil fun D σ H ⟨F0, B, ρ, F, R, p⟩ => by
  rw [evSs] at p
  exact p σ F H R (.refl _ _)
theorem ss_cons (h1 : PS X st (sS X W C m)) (h2 : PSs X xs (sSs X W C ms)) : PSs X (st :: xs) (sSs X W C (m :: ms)) := pssImp (pss_cons h1 h2) fun D σ H ⟨F0, B, ρ, F, R, p⟩ => by
  rw [evSs] at p
  refine ⟨F0, B, ρ, F, R, ?_⟩
  cases e : evS C m ρ with
  | next ρ' => rw [e] at p; exact fun σ' F' H' R' a => ⟨F0, B, ρ', F', R', p.wk a fun i hi => List.mem_append.mpr hi⟩
  | ret d => rw [e] at p; exact p
  | exc c => rw [e] at p; exact p
  | bad => rw [e] at p; exact p
theorem ss_frz {i : Nat} (h : PS X st (sS X W C m)) : PS X st (sS X W C (.frz i m)) := psImp h fun D σ H ⟨F0, B, ρ, F, R, p⟩ => by
  rw [evS] at p
  obtain ⟨F', R'⟩ := R.thaw1 i
  exact ⟨F0, B, _, F', R', p⟩
theorem ss_set {i : Nat} (h : PS X st (tAsg te (gName i))) (hi : ∀ σ H Q, sE X W C a σ H Q → te σ H Q) : PS X st (sS X W C (.set i a)) := psImp h fun D σ H ⟨F0, B, ρ, F, R, p⟩ => by
  rw [evS] at p
  refine hi _ _ _ ⟨F0, B, ρ, F, R, fl_of R p fun d v F' H' _ st dv q => ?_⟩
  exact q _ F' H' ((R.step st).set i dv) ((Agr.refl _ _).set (by simp [wrS]))
theorem own_put {F0 B F H F1 H1 : Hp} {ρ : En} {σ : L2.St} {i : Nat} {v : V} {ds : List D} (R : Rel X.kk F0 B ρ σ F H) (n : NewL X.K F H v H1 ds) : ∃ F', Rel X.kk F0 B (ρ.set i (.own ds)) (σ.set i (some v)) F' H1 := by
  obtain ⟨p, vs, F', rfl, st, h1, h2, h3, h4⟩ := n
  refine ⟨F', (R.step st).own i h1 h3 (R.st.sH.free h2) h4 fun j es _ e1 e2 => ?_⟩
  have q := R.sl j
  rw [e1] at q
  obtain ⟨b, zs, q1, q2, q3, _⟩ := q
  rw [e2] at q1
  cases q1
  rw [h2] at q3
  cases q3
theorem ss_own {i : Nat} (h : PS X st (tAsg te (gName i))) (hi : ∀ σ H Q, sL X W C a σ H Q → te σ H Q) : PS X st (sS X W C (.own i a)) := psImp h fun D σ H ⟨F0, B, ρ, F, R, p⟩ => by
  rw [evS] at p
  refine hi _ _ _ ⟨F0, B, ρ, F, R, ?_⟩
  cases e : ev C a ρ with
  | ok d =>
    rw [e] at p
    match d, p with
    | .list ds, p =>
      intro v H' n
      obtain ⟨F', R'⟩ := own_put (i := i) (F1 := F) (H1 := H') R n
      exact p _ F' H' R' ((Agr.refl _ _).set (by simp [wrS]))
    | .none, p => exact p
    | .bool _, p => exact p
    | .int _, p => exact p
    | .str _, p => exact p
    | .tuple _, p => exact p
    | .dict _, p => exact p
  | exc c => rw [e] at p; exact fun A F' H' mm st => p A σ F' H' mm (R.st.trans st)
  | bad => rw [e] at p; exact p
theorem ss_unp {tg : Tg} {g : TG} (h : PS X st (tAsg te g)) (hi : ∀ σ H Q, sE X W C a σ H Q → te σ H Q) (hg : ∀ v σ H Q, sG X tg v σ H Q → g v σ H Q) : PS X st (sS X W C (.unp tg a)) := psImp h fun D σ H ⟨F0, B, ρ, F, R, p⟩ => by
  rw [evS] at p
  refine hi _ _ _ ⟨F0, B, ρ, F, R, fl_of R p fun d v F' H' _ st dv q => ?_⟩
  cases e : bindT tg d ρ with
  | none => rw [e] at q; exact q.elim
  | some ρ' =>
    rw [e] at q
    exact hg _ _ _ _ ⟨F0, B, ρ, F', d, ρ', R.step st, dv, e, fun σ' R' o => q σ' F' H' R' (.onl o)⟩
theorem ss_par {i j : Nat} {ta : TA} (h : PS X st (tPar i j ta)) (hi : ∀ σ H Q, sA X W C [a, b] σ H Q → ta σ H Q) : PS X st (sS X W C (.par i j false false a b)) := psImp h fun D σ H ⟨F0, B, ρ, F, R, p⟩ => by
  rw [evS] at p
  have e : (ev C a ρ).fl (fun x => (setO false x).fl fun s => (ev C b ρ).fl fun y => (setO false y).fl fun t => Fl.next ((ρ.set i s).set j t))
      = (evs C [a, b] ρ).fl fun ds => match ds with | [x, y] => Fl.next ((ρ.set i (.val x)).set j (.val y)) | _ => .bad := by
    rw [evs, evs, evs]
    cases ev C a ρ with
    | ok x =>
      cases ev C b ρ with
      | ok y => rfl
      | exc c => rfl
      | bad => rfl
    | exc c => rfl
    | bad => rfl
  rw [e] at p
  refine hi _ _ _ ⟨F0, B, ρ, F, R, fl_of R p fun ds vs F' H' _ st dv q => ?_⟩
  match ds, dv, q with
  | [d1, d2], dv, q =>
    obtain ⟨v, u, rfl, h1, h2⟩ := dv.two
    exact ⟨v, u, rfl, q _ F' H' (((R.step st).set i h1).set j h2) (((Agr.refl _ _).set (by simp [wrS])).set (by simp [wrS]))⟩
theorem ss_app {i : Nat} (h : PS X st (tDrop (tBM X.K "list" rAppend (tVar i) (tCons te tNil)))) (hi : ∀ σ H Q, sE X W C a σ H Q → te σ H Q) : PS X st (sS X W C (.app i a)) := psImp h fun D σ H ⟨F0, B, ρ, F, R, p⟩ => by
  rw [evS] at p
  cases s : getS ρ i with
  | own ds =>
    rw [s] at p
    obtain ⟨l, vs, e0, e1, n1, n2, h3, h4, _⟩ := R.getOwn s
    refine ⟨.ref l, e0, .inl ⟨rfl, vs, .of h3⟩, ?_⟩
    refine hi _ _ _ ⟨F0, B, ρ, F, R, fl_of R p fun d v F' H' _ st dv q => ?_⟩
    by_cases g : ds.length < line
    · rw [if_pos g] at q
      have R' := R.step st
      obtain ⟨l', vs', e0', e1', n1', n2', h3', h4', _⟩ := R'.getOwn s
      rw [e1] at e1'
      cases e1'
      refine ⟨l, vs', v, rfl, rfl, h3', by rw [h4'.length, sizeLine_eq]; exact g, ?_⟩
      exact q σ F' _ (R'.write s e1 n1' n2' h3' (h4'.append (.cons dv .nil))) (.refl _ _)
    · rw [if_neg g] at q; exact q.elim
  | no => rw [s] at p; exact p.elim
  | val d => rw [s] at p; exact p.elim
  | scr d => rw [s] at p; exact p.elim
  | dct d => rw [s] at p; exact p.elim
theorem ss_ext {i : Nat} (h : PS X st (tDrop (tBM X.K "list" rExtend (tVar i) (tCons te tNil)))) (hi : ∀ σ H Q, sE X W C a σ H Q → te σ H Q) : PS X st (sS X W C (.ext i a)) := psImp h fun D σ H ⟨F0, B, ρ, F, R, p⟩ => by
  rw [evS] at p
  cases s : getS ρ i with
  | own ds =>
    rw [s] at p
    obtain ⟨l, vs, e0, e1, n1, n2, h3, h4, _⟩ := R.getOwn s
    refine ⟨.ref l, e0, .inl ⟨rfl, vs, .of h3⟩, ?_⟩
    refine hi _ _ _ ⟨F0, B, ρ, F, R, fl_of R p fun d v F' H' _ st dv q => ?_⟩
    match d, dv, q with
    | .list xs, dv, q =>
      have q : Pf X.kk X.mg W F0 B σ _ D (if ds.length + xs.length ≤ line then .next (ρ.set i (.own (ds ++ xs))) else .bad) := q
      by_cases g : ds.length + xs.length ≤ line
      · rw [if_pos g] at q
        have R' := R.step st
        obtain ⟨l', vs', e0', e1', n1', n2', h3', h4', _⟩ := R'.getOwn s
        rw [e1] at e1'
        cases e1'
        obtain ⟨b, ws, rfl, k1, k2⟩ := dv.unlst
        refine ⟨l, b, vs', ws, rfl, rfl, h3', R'.st.sub _ _ k1, by rw [h4'.length, k2.length, sizeLine_eq]; exact g, ?_⟩
        exact q σ F' _ (R'.write s e1 n1' n2' h3' (h4'.append k2)) (.refl _ _)
      · rw [if_neg g] at q; exact q.elim
  | no => rw [s] at p; exact p.elim
  | val d => rw [s] at p; exact p.elim
  | scr d => rw [s] at p; exact p.elim
  | dct d => rw [s] at p; exact p.elim
theorem ss_loop {tge iter : Expr} {tg : Tg} {k : Ik} {src : List E} {body : List S} {kill : List Nat} (hp : PassesOwn (model X.prog X.w) X.A X.env X.xe) (hc : X.calm = true) (hi : PI X tge iter (sI X W C k src)) (hg : PG X tge (sG X tg)) (hb : PSs X xs (sSs X W C body))
    (hs : ∀ v, foldedSetIterable iter X.env v = pure v) : PS X (.For tge iter xs [] pos) (sS X W C (.loop tg k src body kill)) := psImp (ps_for hp hc hi hg hb hs) fun D σ H ⟨F0, B, ρ, F, R, p⟩ => by
  rw [evS, ← fl_assoc] at p
  refine ⟨F0, B, ρ, F, R, fl_of R p fun zs J F1 H1 _ st1 ⟨wk, hlen⟩ q => ?_⟩
  have R1 := R.step st1
  have g : Bs F0 B F1 := .of R1.st
  refine ⟨fun n m σ' H' => m = zs.length - n ∧ n ≤ zs.length ∧ ∃ ρ' F', Rel X.kk F1 B ρ' σ' F' H' ∧ Agr (tgS tg ++ wrSs body) σ σ' ∧ Pf X.kk X.mg W F0 B σ (tgS tg ++ wrSs body) D (loopL (evSs C body) tg kill (zs.drop n) ρ'), ⟨zs.length, rfl, Nat.zero_le _, ρ, F1, R1.here, .refl _ _, q⟩, ?_⟩
  rintro n m σ2 H2 ⟨rfl, hn, ρ2, F2, R2, a2, p2⟩
  by_cases hlt : n < zs.length
  · refine .inr ⟨wk.goes n F2 H2 hlt R2.st.sF R2.st.sub, fun σ' H' => ∃ ρ' F', Rel X.kk F1 B ρ' σ' F' H' ∧ Agr (tgS tg ++ wrSs body) σ σ' ∧ Pf X.kk X.mg W F0 B σ (tgS tg ++ wrSs body) D (loopL (evSs C body) tg kill (zs.drop (n + 1)) ρ'), fun σ' H' q' => ⟨zs.length - (n + 1), by omega, rfl, hlt, q'⟩, fun v H3 hy3 => ?_⟩
    obtain ⟨F3, d, st3, e3, dv3⟩ := wk.yields n F2 H2 v H3 hlt R2.st.sF R2.st.sub hy3
    rw [List.drop_eq_getElem_cons hlt] at p2
    have ed : zs[n] = d := by
      rw [List.getElem?_eq_getElem hlt] at e3
      exact Option.some.inj e3
    rw [ed, loopL] at p2
    cases eb : bindT tg d ρ2 with
    | none => rw [eb] at p2; exact p2.elim
    | some ρ3 =>
      rw [eb, Rs.ofO_some, Rs.fl_ok] at p2
      refine ⟨F1, B, ρ2, F3, d, ρ3, R2.step st3, dv3, eb, fun σ4 R4 o4 => ?_⟩
      have a4 := a2.trans (Agr.onl o4)
      refine ⟨F1, B, ρ3, F3, R4, ?_⟩
      cases ee : evSs C body ρ3 with
      | next ρ5 =>
        rw [ee, Fl.seq_next] at p2
        exact fun σ5 F5 H5 R5 a5 => ⟨_, F5, R5.kills, (a4.trans a5).sub mem_twice, p2⟩
      | ret d' => rw [ee] at p2; exact fun v F5 H5 st5 dv5 => p2 v F5 H5 (st5.bs g) dv5
      | exc c => rw [ee] at p2; exact fun A σ5 F5 H5 m5 st5 => p2 A σ5 F5 H5 m5 (st5.bs g)
      | bad => rw [ee] at p2; exact p2
  · have e : n = zs.length := by omega
    subst e
    rw [List.drop_eq_nil_of_le (Nat.le_refl _)] at p2
    exact .inl ⟨wk.stops F2 H2 R2.st.sF R2.st.sub, p2 σ2 F2 H2 (R2.bs g) a2⟩
theorem ss_whl {body : List S} {kill : List Nat} {n : Nat} (hp : PassesOwn (model X.prog X.w) X.A X.env X.xe) (ht : PT X x (sT X W C a)) (hb : PSs X xs (sSs X W C body)) : PS X (.While x xs [] pos) (sS X W C (.whl n a body kill)) :=
  psImp (ps_while hp ht hb) fun D σ H ⟨F0, B, ρ, F, R, p⟩ => by
  rw [evS] at p
  refine ⟨fun m σ' H' => ∃ ρ' F', Rel X.kk F0 B ρ' σ' F' H' ∧ Agr (wrSs body) σ σ' ∧ Pf X.kk X.mg W F0 B σ (wrSs body) D (whlL (fun ρ => (ev C a ρ).bind truth) (evSs C body) kill m ρ'), ⟨n, ρ, F, R, .refl _ _, p⟩, ?_⟩
  rintro m σ2 H2 ⟨ρ2, F2, R2, a2, p2⟩
  cases m with
  | zero => exact p2.elim
  | succ m =>
    rw [whlL] at p2
    refine ⟨F0, B, ρ2, F2, R2, fl_of R2 p2 fun k b F3 H3 _ st3 eb q => ?_⟩
    have eb : b = k := eb
    subst eb
    cases b with
    | false =>
      rw [if_neg Bool.false_ne_true] at q ⊢
      exact q σ2 F3 H3 (R2.step st3) a2
    | true =>
      rw [if_pos rfl] at q ⊢
      refine ⟨fun σ' H' => ∃ ρ' F', Rel X.kk F0 B ρ' σ' F' H' ∧ Agr (wrSs body) σ σ' ∧ Pf X.kk X.mg W F0 B σ (wrSs body) D (whlL (fun ρ => (ev C a ρ).bind truth) (evSs C body) kill m ρ'), fun σ' H' z => ⟨m, Nat.lt_succ_self _, z⟩, ?_⟩
      refine ⟨F0, B, ρ2, F3, R2.step st3, ?_⟩
      cases ee : evSs C body ρ2 with
      | next ρ5 =>
        rw [ee, Fl.seq_next] at q
        exact fun σ5 F5 H5 R5 a5 => ⟨_, F5, R5.kills, (a2.trans a5).sub (fun i hi => by simp only [List.mem_append, or_self] at hi; exact hi), q⟩
      | ret d' => rw [ee] at q; exact q
      | exc c => rw [ee] at q; exact q
      | bad => rw [ee] at q; exact q
theorem ss_iff (ht : PT X x (sT X W C a)) (h1 : PSs X xs (sSs X W C ms)) (h2 : PSs X ys (sSs X W C ns)) : PS X (.If x xs ys pos) (sS X W C (.iff a ms ns)) := psImp (ps_if ht h1 h2) fun D σ H ⟨F0, B, ρ, F, R, p⟩ => by
  rw [evS, ← fl_assoc] at p
  refine ⟨F0, B, ρ, F, R, fl_of R p fun k b F3 H3 _ st3 eb q => ?_⟩
  have eb : b = k := eb
  subst eb
  cases b with
  | false => exact ⟨F0, B, ρ, F3, R.step st3, Pf.wk (ws := []) q (.refl _ _) fun i hi => List.mem_append.mpr (.inr (hi.elim (fun z => nomatch z) id))⟩
  | true => exact ⟨F0, B, ρ, F3, R.step st3, Pf.wk (ws := []) q (.refl _ _) fun i hi => List.mem_append.mpr (.inl (hi.elim (fun z => nomatch z) id))⟩
theorem ss_ret (h : PE X x (sE X W C a)) : PS X (.Return (some x) pos) (sS X W C (.ret a)) := psImp (ps_ret h) fun D σ H ⟨F0, B, ρ, F, R, p⟩ => by
  rw [evS] at p
  exact ⟨F0, B, ρ, F, R, fl_of R p fun d v F' H' _ st dv q => q v F' H' (R.st.trans st) dv⟩
theorem ss_expr (h : PE X x (sE X W C a)) (hs : swapsWith x none pos.line X.env = pure false) : PS X (.Expr x pos) (sS X W C (.expr a)) := psImp (ps_expr h hs) fun D σ H ⟨F0, B, ρ, F, R, p⟩ => by
  rw [evS] at p
  exact ⟨F0, B, ρ, F, R, fl_of R p fun d v F' H' _ st dv q => q σ F' H' (R.step st) (.refl _ _)⟩
theorem ss_raise {cn : Str} {A : Addr} (hc : X.calm = true) (tk : Takes X W) (hm : PMk X x (fun _ H Q => Q (.ref A) none H)) (hA : X.mg cn = some (.ref A)) : PS X (.Raise (some x) none pos) (sS X W C (.raise cn)) := psImp (ps_raise hc tk hm) fun D σ H ⟨F0, B, ρ, F, R, p⟩ => by
  rw [evS] at p
  exact p A σ F H hA R.st
end
end Pu
/-! ### further forms; a def that fills a list -/
namespace Pu
open PySem PySem.Spec PyProof.Rows L2

section
variable {X : Cx} {W : WX} {C : Nat → List D → Rs D} {a b c : E} {x y z : Expr} {st : Stmt} {pos : Pos}
theorem or_bin : ∀ op : Bop, OpR X (binaryOp (bopO op)) (rOp X.K (binD op))
  | .add => or_add
  | .sub => or_sub
  | .mul => or_mul
  | .mod => or_mod
theorem pe_tyname {nm : Str} {T : String} (hg : Gl X nm) (hm : X.mg nm = none) (hv : bootBuiltins nm = some (.type T)) (hn : nm ≠ "__name__") (hdb : (nm == ("__debug__" : Str)) = false) : PE X (.Name nm pos) (tC (.ty T)) :=
  ⟨fun pins s σ H Q I h => ld_blt I hg hm hv ⟨.ty T, H, I, rfl, h⟩ hn hdb⟩
theorem se_glob {nm : Str} {d : D} (hg : Gl X nm) (h : ∃ v u, X.mg nm = some u ∧ RelV v u ∧ ∀ F, DV X.K F v d) (hdb : (nm == ("__debug__" : Str)) = false) : PE X (.Name nm pos) (sE X W C (.glob nm d)) := by
  obtain ⟨v, u, h1, h2, h3⟩ := h
  exact se_tC (pe_glob hg h1 h2 hdb) h3 fun ρ => by rw [ev]
theorem se_neg {i : Int} {k : Nat} {p : Pos} : PE X (.UnaryOp .USub (.Constant (.int i) k p) pos) (sE X W C (.neg i)) :=
  peImp (pe_un un_neg pe_int) fun σ H Q ⟨F0, B, ρ, F, R, p⟩ => by
    rw [ev] at p
    exact ⟨i, rfl, p.done (Stp.refl R.st.sub) (.int _)⟩
theorem se_upper {apos : Pos} (ha : PE X x (sE X W C a)) (hbase : attributeBase x "upper" X.env (eval x X.env) = eval x X.env) (hline : (apos.endLine == pos.line) = true) : PE X (.Call (.Attribute x "upper" apos) [] [] pos) (sE X W C (.meth .upper a [])) :=
  peImp (pe_upper ha hbase hline) fun σ H Q ⟨F0, B, ρ, F, R, p⟩ => by
    rw [ev] at p
    refine sE_of R p fun d v F1 H1 _ R1 st1 dv1 p1 => ?_
    rw [evs, Rs.bind_ok] at p1
    match d, dv1, p1 with
    | .str s, dv1, p1 =>
      have p1 : Pg X.mg W (DV X.K) (.guard (decide (s.length ≤ 1000) && PyData.strOk (Txt.upper s)) (.ok (.str (Txt.upper s)))) σ F1 H1 Q := p1
      cases g : (decide (s.length ≤ 1000) && PyData.strOk (Txt.upper s)) with
      | false => rw [g] at p1; exact p1.elim
      | true =>
        rw [g] at p1
        rw [Bool.and_eq_true] at g
        have hl := of_decide_eq_true g.1
        refine ⟨⟨s, dv1.unstr.1⟩, s, dv1.unstr.1, rfl, by omega, p1.done (Stp.refl R1.st.sub) (.str g.2)⟩
/-! arguments, and one more -/
def sAx (X : Cx) (W : WX) (C : Nat → List D → Rs D) (te : TE) : List E → TA
  | [] => tCons te tNil
  | e :: r => tCons (sE X W C e) (sAx X W C te r)
theorem sax_read {te : TE} {F0 B : Hp} {σ : L2.St} {ρ : En} : ∀ {es : List E} {F H : Hp} {Q : List V → Hp → Prop}, Rel X.kk F0 B ρ σ F H → Pg X.mg W (DVs X.K) (evs C es ρ) σ F H (fun vs H1 => te σ H1 fun v H2 => Q (vs ++ [v]) H2) → sAx X W C te es σ H Q
  | [], F, H, Q, R, p => by
    rw [evs] at p
    exact p.done (v := []) (Stp.refl R.st.sub) .nil
  | e :: r, F, H, Q, R, p => by
    rw [evs] at p
    refine sE_of R p fun d v F1 H1 _ R1 st1 dv1 p1 => ?_
    refine sax_read R1 (pg_of p1 fun ds vs F2 H2 _ st2 dv2 p2 => ?_)
    exact p2.done (Stp.refl (R1.step st2).st.sub) (.cons (dv1.mono st2.sF) dv2)
def chkX (p : E → Expr → Bool) : List E → List Expr → Option Expr
  | [], [x] => if nst x then some x else none
  | e :: es, x :: xs => if p e x && nst x then chkX p es xs else none
  | _, _ => none
theorem pa_x {te : TE} {p : E → Expr → Bool} {l : Expr} (hp : ∀ e x, p e x = true → PE X x (sE X W C e)) (hl : PE X l te) : ∀ {es : List E} {xs : List Expr}, chkX p es xs = some l → PA X xs (sAx X W C te es) ∧ xs.all nst = true ∧ ∃ x r, xs = x :: r
  | [], [x], h => by
    unfold chkX at h
    split at h
    · rename_i hn
      cases h
      exact ⟨pa_cons hl pa_nil (star_ns hn), by rw [List.all_cons, hn]; rfl, _, _, rfl⟩
    · cases h
  | [], [], h => by cases h
  | [], _ :: _ :: _, h => by cases h
  | e :: es, [], h => by cases h
  | e :: es, x :: xs, h => by
    unfold chkX at h
    split at h
    · rename_i hc
      rw [Bool.and_eq_true] at hc
      obtain ⟨h1, h2, _⟩ := pa_x hp hl h
      exact ⟨pa_cons (hp _ _ hc.1) h1 (star_ns hc.2), by rw [List.all_cons, hc.2, h2]; rfl, _, _, rfl⟩
    · cases h
end
/-- but for the list at l all is kept -/
structure IoS (F H : Hp) (l : Addr) (F' H' : Hp) : Prop where
  sF : Same F F'
  sub : Same F' H'
  sH : ∀ b o, b ≠ l → H b = some o → H' b = some o
  new : ∀ b o, F' b = some o → F b = some o ∨ H b = none
/-- a list's items as a tuple, or the list itself -/
def tlD (l : Bool) (zs : List D) : D := if l then .list zs else .tuple zs
def spI (K : PySem.W.Frag) (P : List D → Rs D) : Sp := fun vs H Q _ => ∃ F us l xs ds acc zs il, vs = us ++ [.ref l] ∧ Same F H ∧ F l = none ∧ H l = some (.lst xs) ∧ DVs K F us ds ∧ DVs K F xs acc ∧ P (ds ++ [.list acc]) = .ok (tlD il zs) ∧
  ∀ v F' H' ys, IoS F H l F' H' → H' l = some (.lst ys) → DVs K F' ys zs → (if il = true then v = .ref l else DV K F' v (.tuple zs)) → Q v H'
structure FnI (X : Cx) (P : List D → Rs D) (nm : Str) : Prop where
  ex : ∃ (f : Addr) (fd : FuncData) (ps : List Str) (k : Nat), FnOk X.prog X.w X.K X.mg X.base (L2.CX X.prog X.w) k f fd ps (spI X.K P) ∧ Room k X.A ∧ X.mg nm = some (.ref f) ∧ PySem.W.keepIn X.K (.ref f) = true ∧ Binds X.K fd ps []
section
variable {X : Cx} {W : WX} {C : Nat → List D → Rs D} {a b c : E} {x y z : Expr} {st : Stmt} {pos : Pos}
theorem tupNx (r : Rs D) : ∀ c, tupR r ≠ .exc c := by
  intro c
  unfold tupR
  split <;> exact fun z => nomatch z
theorem tup_inv {r : Rs D} {d : D} (h : tupR r = .ok d) : ∃ zs il, r = .ok (tlD il zs) ∧ d = tlD il zs := by
  unfold tupR at h
  split at h
  · rename_i zs
    exact ⟨zs, false, rfl, (okInj h).symm⟩
  · rename_i zs
    exact ⟨zs, true, rfl, (okInj h).symm⟩
  · cases h
theorem se_callN {f : Nat} {es : List E} {xs : List Expr} {nm : Str} {p pl : Pos} {pp : E → Expr → Bool} (G : FnI X (C f) nm) (tk : Takes X W) (hg : Gl X nm) (hp : ∀ e x, pp e x = true → PE X x (sE X W C e)) (hx : chkX pp es xs = some (.List [] pl)) (hdb : (nm == ("__debug__" : Str)) = false) :
    PE X (.Call (.Name nm p) xs [] pos) (sE X W C (.callN f es)) := by
  obtain ⟨fa, fd, ps, k, G1, G2, G3, G4, G5⟩ := G.ex
  obtain ⟨h1, h2, x, r, rfl⟩ := pa_x hp (pe_lst (X := X) pa_nil) hx
  have hn : nst x = true ∧ r.all nst = true := by rw [List.all_cons, Bool.and_eq_true] at h2; exact h2
  exact peImp (pe_callS G1 G2 hg G3 G4 G5 (fun σ => passAt tk σ) h1 hdb (star_ns hn.1) (any_ns hn.2)) fun σ H Q ⟨F0, B, ρ, F, R, p⟩ => by
    rw [ev] at p
    refine sax_read R (pg_of p fun ds vs F1 H1 _ st1 dv1 p1 => ?_)
    have R1 := R.step st1
    refine ⟨by show 0 ≤ sizeLine; decide, fun q hq => ?_⟩
    have fq : F1 q = none := R1.st.sub.free hq
    obtain ⟨d, e, p2⟩ := p1.ofOk (tupNx _)
    obtain ⟨zs, il, e1, rfl⟩ := tup_inv e
    refine ⟨F1, vs, q, [], ds, [], zs, il, rfl, R1.st.sub.trans (sameUpd hq), fq, upd_same, dv1, .nil, e1, fun v F' H' ys io hy dys dv => ?_⟩
    have hqn : ∀ b o, H1 b = some o → b ≠ q := fun b o z w => by rw [w, hq] at z; cases z
    have st' : Stp F1 H1 F' H' := ⟨fun b o z => io.sH b o (hqn b o z) (by rw [upd_ne (hqn b o z)]; exact z), io.sF, io.sub, fun b o z => by
      rcases io.new b o z with w | w
      · exact .inl w
      · by_cases hb : b = q
        · subst hb; rw [upd_same] at w; cases w
        · rw [upd_ne hb] at w; exact .inr w⟩
    have fl : F' q = none := by
      cases hF : F' q with
      | none => rfl
      | some o =>
        rcases io.new q o hF with w | w
        · rw [fq] at w; cases w
        · rw [upd_same] at w; cases w
    cases il with
    | false => exact p2 v F' H' st' dv
    | true =>
      have dv : v = .ref q := dv
      subst dv
      refine p2 _ (upd F' q (.lst ys)) H' ⟨st'.sH, st'.sF.trans (sameUpd fl), fun b o z => ?_, fun b o z => ?_⟩ (.newLst dys fl)
      · by_cases hb : b = q
        · subst hb; rw [upd_same] at z; rw [hy]; exact z
        · rw [upd_ne hb] at z; exact io.sub b o z
      · by_cases hb : b = q
        · subst hb; exact .inr hq
        · rw [upd_ne hb] at z; exact st'.new b o z
theorem ss_rows {f i : Nat} {es : List E} {xs : List Expr} {nm yn : Str} {p pl pos' : Pos} {pp : E → Expr → Bool} (G : FnI X (C f) nm) (tk : Takes X W) (hg : Gl X nm) (hp : ∀ e x, pp e x = true → PE X x (sE X W C e)) (hx : chkX pp es xs = some (.Name yn pl)) (hv : PE X (.Name yn pl) (tVar i)) (hdb : (nm == ("__debug__" : Str)) = false) :
    PS X (.Expr (.Call (.Name nm p) xs [] pos) pos') (sS X W C (.rows f i es)) := by
  obtain ⟨fa, fd, ps, k, G1, G2, G3, G4, G5⟩ := G.ex
  obtain ⟨h1, h2, x, r, rfl⟩ := pa_x hp hv hx
  have hn : nst x = true ∧ r.all nst = true := by rw [List.all_cons, Bool.and_eq_true] at h2; exact h2
  exact psImp (ps_expr (pe_callS G1 G2 hg G3 G4 G5 (fun σ => passAt tk σ) h1 hdb (star_ns hn.1) (any_ns hn.2))) fun D σ H ⟨F0, B, ρ, F, R, p⟩ => by
    rw [evS] at p
    cases s : getS ρ i with
    | no => rw [s] at p; exact p.elim
    | val d => rw [s] at p; exact p.elim
    | scr d => rw [s] at p; exact p.elim
    | dct d => rw [s] at p; exact p.elim
    | own acc =>
      rw [s] at p
      refine sax_read R (fl_of R p fun ds vs F1 H1 _ st1 dv1 p1 => ?_)
      have R1 := R.step st1
      obtain ⟨l, ys0, e0, e1, n1, n2, h3, h4, _⟩ := R1.getOwn s
      refine ⟨.ref l, e0, ?_⟩
      cases e : C f (ds ++ [.list acc]) with
      | exc c => rw [e] at p1; exact p1.elim
      | bad => rw [e] at p1; exact p1.elim
      | ok d =>
        rw [e] at p1
        have go : ∀ (il : Bool) (zs : List PyData), C f (ds ++ [.list acc]) = .ok (tlD il zs) → Pf X.kk X.mg W F0 B σ (wrS (.rows f i es)) D (.next (ρ.set i (.own zs))) →
            spI X.K (C f) (vs ++ [.ref l]) H1 (fun v H2 => D.nx σ H2) (fun c d H2 => W c d σ H2) := fun il zs e p1 => by
          refine ⟨F1, vs, l, ys0, ds, acc, zs, il, rfl, R1.st.sub, n1, h3, dv1, h4, e, fun v F' H' ys io hy dys dv => ?_⟩
          have fl : F' l = none := by
            cases q : F' l with
            | none => rfl
            | some o =>
              rcases io.new l o q with w | w
              · rw [n1] at w; cases w
              · rw [h3] at w; cases w
          have st2 : Stp F1 H1 F' (upd H' l (.lst ys0)) := ⟨fun b o z => by
              by_cases hb : b = l
              · subst hb; rw [upd_same]; rw [h3] at z; exact z
              · rw [upd_ne hb]; exact io.sH b o hb z,
            io.sF, fun b o z => by
              by_cases hb : b = l
              · subst hb; rw [fl] at z; cases z
              · rw [upd_ne hb]; exact io.sub b o z,
            io.new⟩
          have R2 := (R1.step st2).write s e1 fl n2 upd_same dys
          have eH : upd (upd H' l (.lst ys0)) l (.lst ys) = H' := by
            funext b
            by_cases hb : b = l
            · subst hb; rw [upd_same, hy]
            · rw [upd_ne hb, upd_ne hb]
          rw [eH] at R2
          exact p1 σ F' H' R2 (.refl _ _)
        match d, e, p1 with
        | .tuple zs, e, p1 => exact go false zs e p1
        | .list zs, e, p1 => exact go true zs e p1
        | .none, e, p1 => exact p1.elim
        | .bool _, e, p1 => exact p1.elim
        | .int _, e, p1 => exact p1.elim
        | .str _, e, p1 => exact p1.elim
        | .dict _, e, p1 => exact p1.elim
end
end Pu
/-! ### dicts, tuple(range(n)) -/
namespace Pu
open PySem PySem.Spec PyProof.Rows L2
section
variable {X : Cx} {W : WX} {C : Nat → List D → Rs D} {a b c : E} {x y z : Expr} {st : Stmt} {pos : Pos}
theorem se_trange {p p2 pos2 : Pos} (hc : X.calm = true) (hg : Gl X "tuple") (hm : X.mg "tuple" = none) (hg2 : Gl X "range") (hm2 : X.mg "range" = none) (ha : PE X x (sE X W C a)) (hn : nst x = true) :
    PE X (.Call (.Name "tuple" p) [.Call (.Name "range" p2) [x] [] pos2] [] pos) (sE X W C (.bi .trange [a])) :=
  peImp (pe_tupRg hc hg hm (prg_1 hg2 hm2 ha (star_ns hn))) fun σ H Q ⟨F0, B, ρ, F, R, p⟩ => by
    have e : ev C (.bi .trange [a]) ρ = (ev C a ρ).bind fun d => biD .trange [d] := by
      rw [ev, evs, evs]
      cases ev C a ρ <;> rfl
    rw [e] at p
    refine sE_of R p fun d v F1 H1 _ R1 st1 dv1 p1 => ?_
    match d, dv1, p1 with
    | .int n, dv1, p1 =>
      have p1 : Pg X.mg W (DV X.K) (.guard (inRange n && decide (n.toNat ≤ line)) (.ok (.tuple ((List.range n.toNat).map fun (i : Nat) => PyData.int (i : Int))))) σ F1 H1 Q := p1
      cases g : (inRange n && decide (n.toNat ≤ line)) with
      | false => rw [g] at p1; exact p1.elim
      | true =>
        rw [g] at p1
        rw [Bool.and_eq_true] at g
        have g1 := in_rng g.1
        have g2 := of_decide_eq_true g.2
        refine ⟨n, dv1.unint, ⟨by omega, by omega, g1.1, g1.2, by rw [Int.sub_zero]; exact g2⟩, fun q hq => ?_⟩
        have hd : ∀ (F : Hp) (m : Nat), DVs X.K F ((List.range m).map fun i => V.int (0 + (i : Nat))) ((List.range m).map fun (i : Nat) => PyData.int (i : Int)) := fun F m => by
          induction m with
          | zero => exact .nil
          | succ m ih =>
            rw [List.range_succ, List.map_append, List.map_append]
            refine ih.append (.cons ?_ .nil)
            show DV X.K F (V.int (0 + (m : Int))) _
            rw [Int.zero_add]
            exact .int _
        refine p1.done (Stp.laid R1.st.sub hq _) (.newTup ?_ (R1.st.sub.free hq))
        unfold rgV
        rw [Int.sub_zero]
        exact hd _ _
/-! keys -/
mutual
theorem nest_of {pins : List (Addr × Obj)} {σ : L2.St} {F H : Hp} {s : Shared} (I : L2.Inv X pins σ H s) (sF : Same F H) : ∀ (d : D) (v : V) (u : Value) (k : NestedKey), Dq X.K F v d → RelV v u → nkOf d = some k → NestedIs s.heap k u
  | .none, _, _, _, h, r, e => by cases h; cases r; cases (Option.some.inj e); exact .none
  | .bool b, _, _, _, h, r, e => by cases h; cases r; have e := Option.some.inj e; subst e; exact .bool rfl
  | .int i, _, _, _, h, r, e => by cases h; obtain ⟨t, rfl⟩ := r; have e := Option.some.inj e; subst e; exact .int _ _
  | .str x, _, _, _, h, r, e => by cases h; obtain ⟨t, rfl⟩ := r; have e := Option.some.inj e; subst e; exact .text _ _
  | .list _, _, _, _, _, _, e => by simp [nkOf] at e
  | .dict _, _, _, _, h, _, e => by cases h
  | .tuple ds, _, _, _, h, r, e => by
    cases h with
    | tup hs ha =>
      cases r
      rw [nkOf] at e
      obtain ⟨ks, e1, e2⟩ := Option.map_eq_some_iff.mp e
      subst e2
      obtain ⟨its, rv, ⟨o, ho, hc, n, hd⟩, _⟩ := I.tuple (sameT sF hs)
      exact .tup ho hc hd (nests_of I sF ds _ its ks ha rv e1)
theorem nests_of {pins : List (Addr × Obj)} {σ : L2.St} {F H : Hp} {s : Shared} (I : L2.Inv X pins σ H s) (sF : Same F H) : ∀ (ds : List D) (vs : List V) (us : List Value) (ks : List NestedKey), DqAll X.K F vs ds → Vals vs us → nksOf ds = some ks → NestedAll s.heap ks us
  | [], _, _, _, h, r, e => by
    cases h
    cases r
    rw [nksOf] at e
    cases e
    exact .nil
  | d :: ds, _, _, _, h, r, e => by
    cases h with
    | cons h1 h2 =>
      cases r with
      | cons r1 r2 =>
        rw [nksOf] at e
        obtain ⟨k, e1, e⟩ := Option.bind_eq_some_iff.mp e
        obtain ⟨ks, e2, e3⟩ := Option.map_eq_some_iff.mp e
        subst e3
        exact .cons (nest_of I sF d _ _ k h1 r1 e1) (nests_of I sF ds _ _ ks h2 r2 e2)
end
theorem keyD_inv {d : D} {k : NestedKey} (h : keyD d = some k) : nkOf d = some k ∧ k.depth ≤ 8 ∧ ∃ xs, d = .tuple xs := by
  unfold keyD at h
  split at h
  · rename_i ht
    obtain ⟨k', e1, e2⟩ := Option.bind_eq_some_iff.mp h
    split at e2
    · rename_i hd
      cases e2
      refine ⟨e1, hd, ?_⟩
      cases d <;> first | exact ⟨_, rfl⟩ | cases ht
    · cases e2
  · cases h
theorem is_of {pins : List (Addr × Obj)} {σ : L2.St} {F H : Hp} {s : Shared} (I : L2.Inv X pins σ H s) (sF : Same F H) {d : D} {b : Addr} {k : NestedKey} (h : DV X.K F (.ref b) d) (e : keyD d = some k) : (nestedKind X.prog X.w).is s.heap k b := by
  obtain ⟨e1, e2, _⟩ := keyD_inv e
  exact ⟨nest_of I sF d _ _ k h.dp rfl e1, e2⟩
theorem dctE_is {pins : List (Addr × Obj)} {σ : L2.St} {F H : Hp} {s : Shared} (I : L2.Inv X pins σ H s) (sF : Same F H) : ∀ {xs : List (NestedKey × Addr × Value)} {kvs : List (D × D)}, DctE X.K F xs kvs → ∀ x ∈ xs, (nestedKind X.prog X.w).is s.heap x.1 x.2.1
  | _, _, .nil, _, h => by cases h
  | _, _, .cons e1 e2 e3 e4 t, x, h => by
    cases h with
    | head => exact is_of I sF e2 e1
    | tail _ h => exact dctE_is I sF t x h
theorem dct_at {pins : List (Addr × Obj)} {σ : L2.St} {F H : Hp} {s : Shared} (I : L2.Inv X pins σ H s) (sF : Same F H) {l : Addr} {xs : List (NestedKey × Addr × Value)} {kvs : List (D × D)} (h : F l = some (DctO X.w l xs)) (he : DctE X.K F xs kvs) (nd : (xs.map (·.1)).Nodup) :
    s.heap.DictOfH (nestedKind X.prog X.w) l xs := by
  obtain ⟨⟨o, es, ep, h1, h2, h3, h4⟩, _, _⟩ := (show ObjOk X.prog X.w H s.heap l (DctO X.w l xs) from I.hok l _ (sF _ _ h))
  exact ⟨o, es, ep, h1, h2, h3, h4, dctE_is I sF he, nd⟩
theorem dlook_at {K : PySem.W.Frag} {F : Hp} {k : NestedKey} {d : D} : ∀ {xs : List (NestedKey × Addr × Value)} {kvs : List (D × D)}, DctE K F xs kvs → dlook kvs k = some d → ∃ b u v, atKey xs k = some (b, u) ∧ RelV v u ∧ DV K F v d
  | _, _, .nil, h => by cases h
  | _, _, .cons (k := k') (b := b) (u := u) (v := v) (kd := kd) (d := d') (xs := xs) (kvs := kvs) e1 e2 e3 e4 t, h => by
    unfold dlook at h
    unfold atKey
    rw [List.find?_cons]
    by_cases hk : keyD kd = some k
    · rw [if_pos hk] at h
      cases h
      rw [e1] at hk
      cases hk
      rw [decide_eq_true rfl]
      exact ⟨b, u, v, rfl, e3, e4⟩
    · rw [if_neg hk] at h
      have hne : ¬ k' = k := fun q => hk (by rw [e1, q])
      rw [decide_eq_false hne]
      exact dlook_at t h
/-- a dict, read at a key -/
def tDx (X : Cx) (td ty : TE) : TE := fun σ H Q => td σ H fun x H1 => ty σ H1 fun y H2 => ∃ (l b : Addr) (F : Hp) (xs : List (NestedKey × Addr × Value)) (kvs : List (D × D)) (kd : D) (k : NestedKey) (d : D), x = .ref l ∧ y = .ref b ∧ Same F H2 ∧ F l = some (DctO X.w l xs) ∧ DctE X.K F xs kvs ∧ (xs.map (·.1)).Nodup ∧
  DV X.K F (.ref b) kd ∧ keyD kd = some k ∧ dlook kvs k = some d ∧ ∀ v, DV X.K F v d → Q v H2
theorem pe_dx {td ty : TE} (hu : X.A.units + 20 < cLine) (ho : PE X x td) (hi : PE X y ty) (hs : NoSl y) : PE X (.Subscript x y pos) (tDx X td ty) := by
  refine ⟨fun pins s σ H Q I h => ?_⟩
  refine subD_of PySem.F.slot_dict_getitem.lookup hs (thn (ho.run pins s σ H _ I h) fun u s1 ⟨x, H1, I1, rx, q1⟩ => thn (hi.run pins s1 σ H1 _ I1 q1) fun iv s2 ⟨y, H2, I2, ry, l, b, F, xs, kvs, kd, k, d, ex, ey, sF, hl, he, nd, dk, hk, hd, q2⟩ => ?_)
  subst ex ey
  obtain rfl : u = Value.ref l := rx
  obtain rfl : iv = Value.ref b := ry
  have hm := dct_at I2 sF hl he nd
  obtain ⟨b', u', v, e1, e2, e3⟩ := dlook_at he hd
  refine ⟨hm.typeIs, wpAny_getItem_heap (knd := nestedKind X.prog X.w) (by show X.A.units + 1 + 8 < cLine; omega) (is_of I2 sF dk hk) hm e1 ⟨v, H2, I2.tok _, e2, q2 v e3⟩⟩
theorem se_dix {i : Nat} (hu : X.A.units + 20 < cLine) (hv : PE X x (tVar i)) (hk : PE X y (sE X W C a)) (hs : NoSl y) : PE X (.Subscript x y pos) (sE X W C (.dix i a)) :=
  peImp (pe_dx hu hv hk hs) fun σ H Q ⟨F0, B, ρ, F, R, p⟩ => by
    rw [ev] at p
    cases s : getS ρ i with
    | no => rw [s] at p; exact p.elim
    | val d => rw [s] at p; exact p.elim
    | scr d => rw [s] at p; exact p.elim
    | own d => rw [s] at p; exact p.elim
    | dct kvs =>
      rw [s] at p
      have q := R.sl i
      rw [s] at q
      obtain ⟨l, xs, e1, h1, h2, h3⟩ := q
      refine ⟨.ref l, getV_some e1, sE_of R p fun d v F1 H1 _ R1 st1 dv1 p1 => ?_⟩
      unfold dixD at p1
      cases ek : keyD d with
      | none => rw [ek] at p1; exact p1.elim
      | some k =>
        rw [ek, Rs.ofO_some, Rs.bind_ok] at p1
        cases el : dlook kvs k with
        | none => rw [el] at p1; exact p1.elim
        | some d' =>
          rw [el] at p1
          obtain ⟨_, _, ds, rfl⟩ := keyD_inv ek
          obtain ⟨b, vs, rfl, _, _⟩ := dv1.untup
          exact ⟨l, b, F1, xs, kvs, _, k, d', rfl, rfl, R1.st.sub, st1.sF _ _ h1, h2.mono st1.sF, h3, dv1, ek, el, fun v' dv' => p1.done (Stp.refl R1.st.sub) dv'⟩
end
end Pu
/-! ### dict(pairs) -/
namespace Pu
open PySem PySem.Spec PyProof.Rows L2
section
variable {X : Cx} {W : WX} {C : Nat → List D → Rs D} {a b c : E} {x y z : Expr} {st : Stmt} {pos : Pos}
abbrev PE4 := Addr × (NestedKey × Addr × Value)
theorem pairs_at {pins : List (Addr × Obj)} {σ : L2.St} {F H : Hp} {s : Shared} (I : L2.Inv X pins σ H s) (sF : Same F H) : ∀ (ds : List D) (vs : List V) (us : List Value) (kvs : List (D × D)) (ks : List NestedKey), DVs X.K F vs ds → Vals vs us → pairsD ds = some kvs → keysD kvs = some ks →
    ∃ es : List PE4, us = es.map (fun e => Value.ref e.1) ∧ (∀ e ∈ es, PairAt s.heap e.1 (.ref e.2.2.1) e.2.2.2) ∧ es.map (·.2.1) = ks ∧ DctE X.K F (es.map (·.2)) kvs
  | [], vs, us, kvs, ks, h, r, e, e' => by
    rw [h.unnil] at r
    cases r
    cases (Option.some.inj e)
    cases (Option.some.inj e')
    exact ⟨[], rfl, by simp, rfl, DctE.nil⟩
  | d :: ds, vs, us, kvs, ks, h, r, e, e' => by
    obtain ⟨v, vr, rfl, h1, h2⟩ := h.uncons
    cases r with
    | cons r1 r2 =>
      match d, h1, e with
      | .tuple [kd, vd], h1, e =>
        have e : (pairsD ds).map ((kd, vd) :: ·) = some kvs := e
        obtain ⟨kvs', e1, e2⟩ := Option.map_eq_some_iff.mp e
        subst e2
        have e' : (keyD kd).bind (fun k => (keysD kvs').map (k :: ·)) = some ks := e'
        obtain ⟨k, e3, e'⟩ := Option.bind_eq_some_iff.mp e'
        obtain ⟨ks', e4, e5⟩ := Option.map_eq_some_iff.mp e'
        subst e5
        obtain ⟨es, g1, g2, g3, g4⟩ := pairs_at I sF ds vr _ kvs' ks' h2 r2 e1 e4
        obtain ⟨p, ws, rfl, h3, h4⟩ := h1.untup
        obtain rfl : _ = Value.ref p := r1
        obtain ⟨v1, v2, rfl, h5, h6⟩ := h4.two
        obtain ⟨its, rv, ⟨o, ho, hc, n, hd⟩, _⟩ := I.tuple (sameT sF h3)
        cases rv with
        | cons rv1 rv2 =>
          cases rv2 with
          | cons rv2 rv3 =>
            cases rv3
            obtain ⟨_, _, zs, rfl⟩ := keyD_inv e3
            obtain ⟨b, ws', rfl, _, _⟩ := h5.untup
            obtain rfl : _ = Value.ref b := rv1
            refine ⟨(p, (k, b, _)) :: es, by rw [g1]; rfl, fun e he => ?_, by rw [List.map_cons, g3], .cons e3 h5 rv2 h6 g4⟩
            cases he with
            | head => exact .inl ⟨o, ho, hc, n, by simpa using hd⟩
            | tail _ he => exact g2 e he
theorem stored_nodup {κ : Type} [DecidableEq κ] : ∀ (ps acc : List (κ × Addr × Value)), ((acc ++ ps).map (·.1)).Nodup → storedAllH acc ps = acc ++ ps
  | [], acc, _ => by rw [List.append_nil]; rfl
  | p :: ps, acc, h => by
    have e : storedH acc p.1 p.2.1 p.2.2 = acc ++ [p] := by
      unfold storedH
      have hn : atKey acc p.1 = none := by
        unfold atKey
        rw [Option.map_eq_none_iff, List.find?_eq_none]
        intro x hx hd
        have hd := of_decide_eq_true hd
        rw [List.map_append, List.nodup_append] at h
        exact h.2.2 x.1 (List.mem_map_of_mem hx) p.1 (by simp) hd
      rw [hn]
      rfl
    show storedAllH (storedH acc p.1 p.2.1 p.2.2) ps = _
    rw [e, stored_nodup ps (acc ++ [p]) (by rw [List.append_assoc]; exact h), List.append_assoc]
    rfl
/-- dict(a list of pairs), no key twice -/
def tDct (X : Cx) (te : TE) : TE := fun σ H Q => te σ H fun v H1 => ∃ (F : Hp) (l : Addr) (ds : List D) (kvs : List (D × D)) (ks : List NestedKey), v = .ref l ∧ Same F H1 ∧ DV X.K F v (.list ds) ∧ pairsD ds = some kvs ∧ keysD kvs = some ks ∧ ks.Nodup ∧ ds.length ≤ line ∧
  ∀ (q : Addr) (xs : List (NestedKey × Addr × Value)), H1 q = none → xs.map (·.1) = ks → DctE X.K F xs kvs → Q (.ref q) (upd H1 q (DctO X.w q xs))
theorem pe_dct {te : TE} {p : Pos} (hu : X.A.units + 20 < cLine) (hc : X.calm = true) (hg : Gl X "dict") (hm : X.mg "dict" = none) (he : PE X x te) (na : starEach [x] X.env = [(false, eval x X.env)]) : PE X (.Call (.Name "dict" p) [x] [] pos) (tDct X te) := by
  refine ⟨fun pins s σ H Q I h => ?_⟩
  refine Call_ (ld_blt I hg hm PyProof.Rows.boot_dict (PyProof.Rows.callWith_type1 (args_cons (thn (he.run pins s σ H _ I h) fun u s1 ⟨v, H1, I1, r, F, l, ds, kvs, ks, e1, sF, dv, e2, e3, nd, hl, q⟩ => args_nil ?_) na) na))
  subst e1
  obtain rfl : u = Value.ref l := r
  obtain ⟨l', vs, el, h1, h2⟩ := dv.unlst
  cases el
  obtain ⟨its, rv, ⟨o, n, ho, hcl, hdn, hdt⟩, hz⟩ := I1.list (.of (sF _ _ h1))
  obtain ⟨es, g1, g2, g3, g4⟩ := pairs_at I1 sF ds vs its kvs ks h2 rv e2 e3
  have hlen : es.length = ds.length := by
    have q1 := congrArg List.length g1
    rw [List.length_map] at q1
    rw [← q1, ← rv.length, h2.length]
  have his : ∀ x ∈ es.map (·.2), (nestedKind X.prog X.w).is s1.heap x.1 x.2.1 := dctE_is I1 sF g4
  refine call_dict_pairsH (knd := nestedKind X.prog X.w) (ps := es.map (·.2)) (PairArg.list l its.toArray (fun j => (es.map (·.1)).getD j 0) (es.map fun e => (Value.ref e.2.2.1, e.2.2.2))) (I1.ok.hd hc) (by show X.A.units + 1 + 1 + 8 < cLine; omega) ⟨⟨o, n, ho, hcl, hdn, hdt⟩, ?_, fun j k v hj => ?_⟩ ⟨?_, fun j k v hj => ?_⟩ (fun h' hk x hx => ?_) ?_ (fun h' tk hd' hk => ?_)
  · rw [List.length_map]
    have q1 := congrArg List.length g1
    simpa using q1
  · rw [List.getElem?_map] at hj
    obtain ⟨e, he, hv⟩ := Option.map_eq_some_iff.mp hj
    cases hv
    refine ⟨?_, ?_⟩
    · rw [g1]
      simp [he]
    · have : (es.map (·.1)).getD j 0 = e.1 := by rw [List.getD_eq_getElem?_getD, List.getElem?_map, he]; rfl
      show PairAt s1.heap ((es.map (·.1)).getD j 0) _ _
      rw [this]
      exact g2 e (List.mem_of_getElem? he)
  · rw [List.length_map, List.length_map]
  · have hj : (es.map fun e => (Value.ref e.2.2.1, e.2.2.2))[j]? = some (k, v) := hj
    rw [List.getElem?_map] at hj
    obtain ⟨e, he, hv⟩ := Option.map_eq_some_iff.mp hj
    cases hv
    exact ⟨e.2.1, e.2.2.1, by rw [List.getElem?_map, he]; rfl, rfl⟩
  · exact nestedKind_stays.stays (fun b o _ _ hb _ => hk b o (Nat.ne_of_lt (Heap.lt_size hb)) (fun z => nomatch z) hb) (his x hx)
  · rw [List.length_map, hlen, sizeLine_eq]
    exact hl
  · have nd' : ((es.map (·.2)).map (·.1)).Nodup := by
      rw [List.map_map]
      have : (es.map ((fun x : NestedKey × Addr × Value => x.1) ∘ (fun e : PE4 => e.2))) = ks := g3
      rw [this]
      exact nd
    rw [stored_nodup _ [] (by simpa using nd')] at hd'
    rw [List.nil_append] at hd'
    obtain ⟨o2, es2, ep2, k1, k2, k3, k4, k5, k6⟩ := hd'
    refine ⟨.ref s1.heap.objs.size, upd H1 s1.heap.objs.size (DctO X.w s1.heap.objs.size (es.map (·.2))), I1.laid (fun b o hb => hk b o (fun z => nomatch z) hb) (Nat.le_refl _) ?_, rfl, q _ _ (I1.hok.fresh (Nat.le_refl _)) (by rw [List.map_map]; exact g3) g4⟩
    refine ⟨⟨o2, es2, ep2, k1, k2, k3, k4⟩, ⟨o2, k1⟩, fun ha hb ⟨o3, es3, ep3, j1, j2, j3, j4⟩ hh => ⟨o3, es3, ep3, hh _ j1, j2, j3, j4⟩⟩
end
end Pu
/-! ### dicts as names, handed on -/
namespace Pu
open PySem PySem.Spec PyProof.Rows L2
section
variable {X : Cx} {W : WX} {C : Nat → List D → Rs D} {a b c : E} {x y z : Expr} {st : Stmt} {pos : Pos}
theorem dctD_inv {d : D} {kvs : List (D × D)} (h : dctD d = .ok kvs) : ∃ ds ks, d = .list ds ∧ pairsD ds = some kvs ∧ keysD kvs = some ks ∧ ks.Nodup ∧ ds.length ≤ line := by
  unfold dctD at h
  split at h
  · obtain ⟨kv, e1, h⟩ := bind_inv h
    obtain ⟨ks, e2, h⟩ := bind_inv h
    obtain ⟨g, h⟩ := guard_ok h
    have h := okInj h
    subst h
    rw [Bool.and_eq_true] at g
    exact ⟨_, ks, rfl, ofO_inv e1, ofO_inv e2, of_decide_eq_true g.1, of_decide_eq_true g.2⟩
  · cases h
theorem dctNx (d : D) : ∀ c, dctD d ≠ .exc c := by
  intro c h
  unfold dctD at h
  split at h
  · rename_i xs
    cases e1 : pairsD xs with
    | none => rw [e1] at h; cases h
    | some kvs =>
      rw [e1, Rs.ofO_some, Rs.bind_ok] at h
      cases e2 : keysD kvs with
      | none => rw [e2] at h; cases h
      | some ks =>
        rw [e2, Rs.ofO_some, Rs.bind_ok] at h
        unfold Rs.guard at h
        split at h <;> cases h
  · cases h
theorem dctO_laid {F H : Hp} {q : Addr} {w : World} {xs : List (NestedKey × Addr × Value)} (s : Same F H) (h : H q = none) : Stp F H (upd F q (DctO w q xs)) (upd H q (DctO w q xs)) := Stp.laid s h _
theorem se_dget {p : Pos} {pos2 : Pos} (hu : X.A.units + 20 < cLine) (hc : X.calm = true) (hg : Gl X "dict") (hm : X.mg "dict" = none) (ha : PE X x (sE X W C a)) (na : starEach [x] X.env = [(false, eval x X.env)]) (hk : PE X y (sE X W C b)) (hs : NoSl y) :
    PE X (.Subscript (.Call (.Name "dict" p) [x] [] pos2) y pos) (sE X W C (.dget a b)) :=
  peImp (pe_dx hu (pe_dct hu hc hg hm ha na) hk hs) fun σ H Q ⟨F0, B, ρ, F, R, p⟩ => by
    rw [ev] at p
    refine sE_of R p fun d v F1 H1 _ R1 st1 dv1 p1 => ?_
    cases ed : dctD d with
    | exc c => exact absurd ed (dctNx d c)
    | bad => rw [ed] at p1; exact p1.elim
    | ok kvs =>
      rw [ed, Rs.bind_ok] at p1
      obtain ⟨ds, ks, rfl, e1, e2, nd, hl⟩ := dctD_inv ed
      obtain ⟨l, vs, rfl, h1, h2⟩ := dv1.unlst
      refine ⟨F1, l, ds, kvs, ks, rfl, R1.st.sub, dv1, e1, e2, nd, hl, fun q xs hq hx he => ?_⟩
      have st2 : Stp F1 H1 (upd F1 q (DctO X.w q xs)) (upd H1 q (DctO X.w q xs)) := Stp.laid R1.st.sub hq _
      have R2 := R1.step st2
      refine sE_of R2 (Pg.step p1 st2) fun d2 v2 F3 H3 _ R3 st3 dv3 p3 => ?_
      unfold dixD at p3
      cases ek : keyD d2 with
      | none => rw [ek] at p3; exact p3.elim
      | some k =>
        rw [ek, Rs.ofO_some, Rs.bind_ok] at p3
        cases el : dlook kvs k with
        | none => rw [el] at p3; exact p3.elim
        | some d' =>
          rw [el] at p3
          obtain ⟨_, _, dz, rfl⟩ := keyD_inv ek
          obtain ⟨b', ws, rfl, _, _⟩ := dv3.untup
          exact ⟨q, b', F3, xs, kvs, _, k, d', rfl, rfl, R3.st.sub, st3.sF _ _ upd_same, (he.mono st2.sF).mono st3.sF, by rw [hx]; exact nd, dv3, ek, el, fun v' dv' => p3.done (Stp.refl R3.st.sub) dv'⟩
theorem ss_dct {i : Nat} {te : TE} (h : PS X st (tAsg (tDct X te) (gName i))) (hi : ∀ σ H Q, sE X W C a σ H Q → te σ H Q) : PS X st (sS X W C (.dct i a)) := psImp h fun D σ H ⟨F0, B, ρ, F, R, p⟩ => by
  rw [evS] at p
  refine hi _ _ _ ⟨F0, B, ρ, F, R, fl_of R p fun d v F1 H1 _ st1 dv1 p1 => ?_⟩
  have R1 := R.step st1
  cases ed : dctD d with
  | exc c => exact absurd ed (dctNx d c)
  | bad => rw [ed] at p1; exact p1.elim
  | ok kvs =>
    rw [ed, Rs.fl_ok] at p1
    obtain ⟨ds, ks, rfl, e1, e2, nd, hl⟩ := dctD_inv ed
    obtain ⟨l, vs, rfl, h1, h2⟩ := dv1.unlst
    refine ⟨F1, l, ds, kvs, ks, rfl, R1.st.sub, dv1, e1, e2, nd, hl, fun q xs hq hx he => ?_⟩
    have st2 : Stp F1 H1 (upd F1 q (DctO X.w q xs)) (upd H1 q (DctO X.w q xs)) := Stp.laid R1.st.sub hq _
    have R2 := R1.step st2
    exact p1 _ _ _ (R2.put i (s := .dct kvs) (x := some (.ref q)) ⟨q, xs, rfl, upd_same, he.mono st2.sF, by rw [hx]; exact nd⟩ fun _ z => nomatch z) ((Agr.refl _ _).set (by simp [wrS]))
/-! a dict as an argument -/
def spK (K : KK) (mg : Str → Option Value) (P : List D → Rs D) (j : Nat) : Sp := fun vs H Q Ee => ∃ (F : Hp) (us ws : List V) (l : Addr) (ds es : List D) (kvs : List (D × D)) (xs : List (NestedKey × Addr × Value)), vs = us ++ .ref l :: ws ∧ us.length = j ∧ Same F H ∧ F l = some (DctO K.w l xs) ∧ DctE K F xs kvs ∧ (xs.map (·.1)).Nodup ∧
  DVs K F us ds ∧ DVs K F ws es ∧ Pg mg (fun c d _ H => Ee c d H) (DV K) (P (ds ++ .dict kvs :: es)) [] F H Q
structure FnK (X : Cx) (P : List D → Rs D) (nm : Str) (j : Nat) : Prop where
  ex : ∃ (f : Addr) (fd : FuncData) (ps : List Str) (k : Nat), FnOk X.prog X.w X.K X.mg X.base (L2.CX X.prog X.w) k f fd ps (spK X.kk X.mg P j) ∧ Room k X.A ∧ X.mg nm = some (.ref f) ∧ PySem.W.keepIn X.K (.ref f) = true ∧ Binds X.K fd ps []
def sAD (X : Cx) (W : WX) (C : Nat → List D → Rs D) (i : Nat) (fs : List E) : List E → TA
  | [] => tCons (tVar i) (sA X W C fs)
  | e :: r => tCons (sE X W C e) (sAD X W C i fs r)
theorem sad_read {i : Nat} {fs : List E} {F0 B : Hp} {σ : L2.St} {ρ : En} : ∀ {es : List E} {F H : Hp} {Q : List V → Hp → Prop}, Rel X.kk F0 B ρ σ F H → Pg X.mg W (DVs X.K) (evs C es ρ) σ F H (fun vs H1 => tCons (tVar i) (sA X W C fs) σ H1 fun ws H2 => Q (vs ++ ws) H2) → sAD X W C i fs es σ H Q
  | [], F, H, Q, R, p => by
    rw [evs] at p
    exact p.done (v := []) (Stp.refl R.st.sub) .nil
  | e :: r, F, H, Q, R, p => by
    rw [evs] at p
    refine sE_of R p fun d v F1 H1 _ R1 st1 dv1 p1 => ?_
    refine sad_read R1 (pg_of p1 fun ds vs F2 H2 _ st2 dv2 p2 => ?_)
    exact p2.done (Stp.refl (R1.step st2).st.sub) (.cons (dv1.mono st2.sF) dv2)
/-- the arguments ahead, the dict's name, the arguments behind -/
def chkD (p : E → Expr → Bool) (q : Expr → Bool) (fs : List E) (r : List E → List Expr → Bool) : List E → List Expr → Bool
  | [], x :: xs => q x && nst x && r fs xs
  | e :: es, x :: xs => p e x && nst x && chkD p q fs r es xs
  | _, _ => false
theorem pa_d {i : Nat} {fs : List E} {p : E → Expr → Bool} {q : Expr → Bool} {r : List E → List Expr → Bool} (hp : ∀ e x, p e x = true → PE X x (sE X W C e)) (hq : ∀ x, q x = true → PE X x (tVar i)) (hr : ∀ xs, r fs xs = true → PA X xs (sA X W C fs) ∧ xs.all nst = true) :
    ∀ {es : List E} {xs : List Expr}, chkD p q fs r es xs = true → PA X xs (sAD X W C i fs es) ∧ xs.all nst = true ∧ ∃ x r, xs = x :: r
  | [], x :: xs, h => by
    unfold chkD at h
    rw [Bool.and_eq_true, Bool.and_eq_true] at h
    obtain ⟨r1, r2⟩ := hr _ h.2
    exact ⟨pa_cons (hq _ h.1.1) r1 (star_ns h.1.2), by rw [List.all_cons, h.1.2, r2]; rfl, _, _, rfl⟩
  | [], [], h => by cases h
  | e :: es, [], h => by cases h
  | e :: es, x :: xs, h => by
    unfold chkD at h
    rw [Bool.and_eq_true, Bool.and_eq_true] at h
    obtain ⟨h1, h2, _⟩ := pa_d hp hq hr h.2
    exact ⟨pa_cons (hp _ _ h.1.1) h1 (star_ns h.1.2), by rw [List.all_cons, h.1.2, h2]; rfl, _, _, rfl⟩
theorem evs_len : ∀ {es : List E} {ρ : En} {ds : List D}, evs C es ρ = .ok ds → ds.length = es.length
  | [], _, _, h => by rw [evs] at h; rw [← okInj h]; rfl
  | e :: es, ρ, ds, h => by
    rw [evs] at h
    obtain ⟨d, _, h⟩ := bind_inv h
    obtain ⟨ds', h2, h⟩ := bind_inv h
    rw [← okInj h, List.length_cons, List.length_cons, evs_len h2]
theorem se_callD {f i : Nat} {es fs : List E} {xs : List Expr} {nm : Str} {p : Pos} {pp : E → Expr → Bool} {q : Expr → Bool} {r : List E → List Expr → Bool} (G : FnK X (C f) nm es.length) (tk : Takes X W) (hg : Gl X nm) (hp : ∀ e x, pp e x = true → PE X x (sE X W C e)) (hq : ∀ x, q x = true → PE X x (tVar i)) (hr : ∀ xs, r fs xs = true → PA X xs (sA X W C fs) ∧ xs.all nst = true)
    (hx : chkD pp q fs r es xs = true) (hdb : (nm == ("__debug__" : Str)) = false) : PE X (.Call (.Name nm p) xs [] pos) (sE X W C (.callD f i es fs)) := by
  obtain ⟨fa, fd, ps, k, G1, G2, G3, G4, G5⟩ := G.ex
  obtain ⟨h1, h2, x, rs, rfl⟩ := pa_d hp hq hr hx
  have hn : nst x = true ∧ rs.all nst = true := by rw [List.all_cons, Bool.and_eq_true] at h2; exact h2
  exact peImp (pe_callS G1 G2 hg G3 G4 G5 (fun σ => passAt tk σ) h1 hdb (star_ns hn.1) (any_ns hn.2)) fun σ H Q ⟨F0, B, ρ, F, R, p⟩ => by
    rw [ev] at p
    cases s : getS ρ i with
    | no => rw [s] at p; exact p.elim
    | val d => rw [s] at p; exact p.elim
    | scr d => rw [s] at p; exact p.elim
    | own d => rw [s] at p; exact p.elim
    | dct kvs =>
      rw [s] at p
      refine sad_read R (pg_of p fun ds vs F1 H1 eds st1 dv1 p1 => ?_)
      have R1 := R.step st1
      have q := R1.sl i
      rw [s] at q
      obtain ⟨l, xs, e1, k1, k2, k3⟩ := q
      refine ⟨.ref l, getV_some e1, sA_of R1 p1 fun ds2 vs2 F2 H2 _ R2 st2 dv2 p2 => ?_⟩
      refine ⟨F2, vs, vs2, l, ds, ds2, kvs, xs, rfl, by rw [dv1.length, evs_len eds], R2.st.sub, st2.sF _ _ k1, k2.mono st2.sF, k3, dv1.mono st2.sF, dv2, ?_⟩
      cases e : C f (ds ++ .dict kvs :: ds2) with
      | ok d => rw [e] at p2; exact p2
      | exc c => rw [e] at p2; exact p2
      | bad => rw [e] at p2; exact p2
end
end Pu
/-! ### the word for a refusal -/
namespace Pu
open PySem PySem.Spec PyProof.Rows L2
theorem call_isE' {X : Cx} {a D : Addr} {oe : Obj} (C : ExcC X.K D) (hm : (a, oe) ∈ X.pn) (hz : Zc (.ref D) none oe) (hf : ∃ vs, oe.data = .fields vs) : CallR X (.builtin "isinstance") (rIsE X.K D a) := by
  intro pins s σ H xs us Q I r h
  obtain ⟨c, cv, b, rfl, hcv, e, q⟩ := h
  cases r with
  | cons rx rr =>
    cases rr with
    | cons rt rr =>
      cases rr
      cases rx
      have ec := hcv _ rt
      subst ec
      obtain ⟨hget, _⟩ := I.pin (a, oe) (List.mem_append.mpr (.inl hm))
      obtain ⟨vs, hv⟩ := hf
      have J : PySem.W.InstAt s.heap a oe D none := by
        obtain ⟨oc, od, oda, osl⟩ := oe
        obtain ⟨h1, h2⟩ := hz
        dsimp only at h1 h2 hv
        subst h1 h2 hv
        exact ⟨hget, rfl, rfl, trivial⟩
      exact PySem.W.kia_one (PySem.W.handS_kitx_exc C.hg C.hk C.hs C.hd C.ha C.hn C.ht C.hm) I.kIn J e (fun z => nomatch z) fun tk => ⟨.bl b, H, I.kept (t' := tk) fun _ _ z => z, rfl, q⟩
/-- l.count(x) -/
def rCountD (K : PySem.W.Frag) : V → List V → Hp → VK → Prop := fun x xs H Q => ∃ (a : Addr) (y : V) (d : PyData) (ds : List PyData), x = V.ref a ∧ xs = [y] ∧ Dp K H (V.ref a) (.list ds) ∧ Dp K H y d ∧
  PyData.plainAll ds = true ∧ d.plain = true ∧ PyData.depthAll ds ≤ 60 ∧ Q (.int (ds.countP fun z => PyData.eqv z d : Nat)) H
theorem mt_countD {X : Cx} (hu : X.A.units + 65 < cLine) : MtR X "list.count" (rCountD X.K) := by
  intro pins s σ H x xs v us Q I rx rxs h
  obtain ⟨a, y, d, ds, rfl, rfl, hl, hy, pl, pd, hdp, q⟩ := h
  cases rx
  cases rxs with
  | cons ry rt =>
    rename_i uy ut
    cases rt
    obtain ⟨bs, r1⟩ := Dp.reads I d y uy hy ry
    cases hl with
    | lst hs ha =>
      obtain ⟨its, rv, ⟨⟨cls, dd, data, sls⟩, n, ho, hc, hdn, hdt⟩, hlen⟩ := I.list hs
      simp only at hc hdt
      subst hc hdt
      obtain ⟨as, h4⟩ := Dp.readsAll I ds _ its ha rv
      have hroom : X.A.units + 1 + min (PyData.depthAll ds) d.depth < cLine := by
        have : min (PyData.depthAll ds) d.depth ≤ 60 := Nat.le_trans (Nat.min_le_left _ _) hdp
        omega
      refine PySem.SeqAt.count_list_data (vs := its.toArray) ⟨_, ho, rfl, n, rfl⟩ (show ReadsAll s.heap its.toArray.toList ds as from h4) r1 pl pd hroom ?_
      exact ⟨.int _, H, I.tok _, ⟨_, rfl⟩, q⟩
/-- which word for which class -/
structure WordF (K : PySem.W.Frag) (mg : Str → Option Value) (A1 A2 : Addr) : Prop where
  m1 : mg "NoNode" = some (.ref A1)
  m2 : mg "NoText" = some (.ref A2)
  mV : mg "ValueError" = none
  mI : mg "isinstance" = none
  c1 : ExcC K A1
  c2 : ExcC K A2
  k11 : PySem.W.kitOne K (.ref A1) (.ref A1) = some true
  k12 : PySem.W.kitOne K (.ref A1) (.ref A2) = some false
  k21 : PySem.W.kitOne K (.ref A2) (.ref A1) = some false
  k22 : PySem.W.kitOne K (.ref A2) (.ref A2) = some true
  v1 : PySem.W.kitOne K (.ref A1) (.type "ValueError") = some true
  v2 : PySem.W.kitOne K (.ref A2) (.type "ValueError") = some true
def wd (A1 A2 D : Addr) (z : Str) : Prop := (D = A1 ∧ z = "no node") ∨ (D = A2 ∧ z = "no text")
/-- a def called with the exception that is held -/
structure FnW (P : Program) (w : World) (K : PySem.W.Frag) (mg : Str → Option Value) (base : Heap) (k : Nat) (f : Addr) (fd : FuncData) (ps : List Str) (A1 A2 : Addr) : Prop where
  run : ∀ (A : Around) (outer : List Env) (s : Shared) (H : Hp) (a : Addr) (oe : Obj) (D : Addr) (z : Str) (args : Args) (Q : VK), L2H.RoomH k A → L2H.PinOk outer H s (a, oe) → Zc (.ref D) none oe → (∃ vs, oe.data = .fields vs) → wd A1 A2 D z → Env0 P w K mg base A outer s H →
    BindsTo s fd args (ps.zip [.ref a]) → (∀ H', Same H H' → Q (.str z) H') → codeAny (model P w) A (.call (.ref f) args) (CR (fun _ _ _ _ _ _ => False) outer P w H s Q (fun _ _ _ => False)) s

theorem pe_callW {Y : Cx} {a f D A1 A2 : Addr} {oe : Obj} {k i : Nat} {fd : FuncData} {ps : List Str} {nm en : Str} {p q pos : Pos} (hp : (a, oe) ∈ Y.pn) (hz : Zc (.ref D) none oe) (hf : ∃ vs, oe.data = .fields vs) (F : FnW Y.prog Y.w Y.K Y.mg Y.base k f fd ps A1 A2) (hr : L2H.RoomH k Y.A) (hl : ps.length = 1)
    (hg : Gl Y nm) (hm : Y.mg nm = some (.ref f)) (hk : PySem.W.keepIn Y.K (.ref f) = true) (hb : Binds Y.K fd ps []) (hN : Y.N[i]? = some en) (hv : Vis Y.env.scope en) (hdb : (nm == ("__debug__" : Str)) = false) (hd : (en == ("__debug__" : Str)) = false) (hcd : (en == ("__classdict__" : Str)) = false) :
    PE Y (.Call (.Name nm p) [.Name en q] [] pos) (fun σ H Q => σ[i]? = some (some (V.ref a)) ∧ ∃ z, wd A1 A2 D z ∧ ∀ H', Same H H' → Q (.str z) H') := by
  refine ⟨fun pins s σ H Q I ⟨hs, z, hw, hq⟩ => ?_⟩
  refine wpAny_Call_Name_kw (ld_glob I hg hm ?_ hdb)
  refine PySem.W.callWith_K (h₀ := Y.base) I.ok.mod.kin hk (thn ((pa_cons (pe_var (X := Y) hN hv hd hcd) pa_nil).run pos pins s σ H (fun vs H1 => vs = [.ref a] ∧ H1 = H) I ⟨.ref a, hs, rfl, rfl⟩) fun us s1 ⟨vs, H1, I1, r, e1, e2⟩ => ⟨I1.kIn, ?_⟩) rfl rfl
  subst e1 e2
  cases r with
  | cons r1 r2 =>
    cases r2
    cases r1
    have b := hb s1 [.ref a] I1.kIn (by rw [List.append_nil]; exact hl.symm)
    rw [List.append_nil] at b
    have P1 := I1.pin (a, oe) (List.mem_append_left _ hp)
    have hpin : L2H.PinOk Y.stack H1 s1 (a, oe) := ⟨P1.1, P1.2.1, fun hm => (List.mem_cons.mp (I1.stkSub a hm)).elim P1.2.2.1 P1.2.2.2.1, P1.2.2.2.2⟩
    refine wpAny_call (codeAny_mono (F.run Y.A Y.stack s1 H1 a oe D z ⟨[.ref a], []⟩ Q hr hpin hz hf hw I1.env0 b hq) fun r s' hq => ?_)
    cases r with
    | error e => exact hq.elim
    | ok fl =>
      cases fl with
      | ret u => exact I1.after hq
      | next => exact False.elim hq
      | brk => exact False.elim hq
      | cont => exact False.elim hq
structure WordC (X : Cx) (nm : Str) : Prop where
  ex : ∃ (f : Addr) (fd : FuncData) (ps : List Str) (k : Nat) (A1 A2 : Addr), FnW X.prog X.w X.K X.mg X.base k f fd ps A1 A2 ∧ WordF X.K X.mg A1 A2 ∧ Room k X.A ∧ X.mg nm = some (.ref f) ∧ PySem.W.keepIn X.K (.ref f) = true ∧ Binds X.K fd ps [] ∧ ps.length = 1
/-- the class that the except clauses name -/
structure TreC (K : PySem.W.Frag) (mg : Str → Option Value) (c : Value) : Prop where
  e1 : ∀ A, mg "NoNode" = some (.ref A) → PySem.W.exmOne K (.ref A) c = some true
  e2 : ∀ A, mg "NoText" = some (.ref A) → PySem.W.exmOne K (.ref A) c = some true
theorem Stp.grow {F H F' H' H2 : Hp} (st : Stp F H F' H') (s : Same H' H2) : Stp F H F' H2 := ⟨st.sH.trans s, st.sF, st.sub.trans s, st.new⟩
section
variable {X : Cx} {W : WX} {C : Nat → List D → Rs D} {ms : List S} {pos : Pos}
theorem ss_tryw {x n wn : Str} {c : Value} {i : Nat} {body : List Stmt} {np pos' p q pos2 pos3 : Pos} (hs : X.stack = X.env :: X.outer) (hf : X.env.frame = some X.env.locals) (hN : X.N.Nodup) (hi : X.N[i]? = some n) (hln : X.env.kindOf n = some .local) (hc : Names X x c) (tk : Takes X W) (T : TreC X.K X.mg c) (V1 : WordC X wn)
    (hg : Gl X wn) (hdb : (wn == ("__debug__" : Str)) = false) (hd : (n == ("__debug__" : Str)) = false) (hcd : (n == ("__classdict__" : Str)) = false)
    (hb : ∀ (W : WX) (pn : List (Addr × Obj)) (xe : Value → Shared → Prop), Takes (X.tr pn xe) W → PassesOwn (model X.prog X.w) X.A X.env xe → PSs (X.tr pn xe) body (sSs (X.tr pn xe) W C ms)) :
    PS X (.Try body [.ExceptHandler (some (.Name x np)) (some n) [.Return (some (.Call (.Name wn p) [.Name n q] [] pos2)) pos3] pos'] [] [] pos) (sS X W C (.tryw true ms)) := by
  obtain ⟨f, fd, ps, k, A1, A2, G1, G2, G3, G4, G5, G6, G7⟩ := V1.ex
  refine psImp (ps_try_as (tb := fun W => fun D σ H => ∃ F0 B ρ F, Rel X.kk F0 B ρ σ F H ∧ Pf X.kk X.mg W F0 B σ (wrSs ms) D (evSs C ms ρ)) (ts := fun a cls d D σ H => ∃ D0 σ0, cls = .ref D0 ∧ d = none ∧ σ = (σ0 : L2.St).set i (some (V.ref a)) ∧ ∃ z, wd A1 A2 D0 z ∧ ∀ H', Same H H' → D.rt (.str z) H') (Wout := W) hs hf hN hi hln hc tk (fun W pn xe t p => hb W pn xe t p) fun a oe cls d pn hz hv => ⟨fun pins s σ H D I ⟨D0, σ0, e1, e2, h1, z, hw, hq⟩ => ?_⟩) fun D σ H ⟨F0, B, ρ, F, R, p⟩ => ?_
  · subst e1 e2
    have hlt : i < σ0.length := by
      have q1 := I.len
      have q2 : i < X.N.length := (List.getElem?_eq_some_iff.mp hi).1
      rw [h1, List.length_set] at q1
      rw [q1]
      exact q2
    have h1 : σ[i]? = some (some (V.ref a)) := by rw [h1, List.getElem?_set_self hlt]
    exact (pss_one (ps_ret (pe_callW (Y := X.suite a ((a, oe) :: pn)) (List.mem_cons_self) hz hv G1 ⟨G3.dp, G3.un⟩ G7 hg G4 G5 G6 hi (.inl hln) hdb hd hcd))).run pins s σ H D I ⟨h1, z, hw, hq⟩
  · rw [evS] at p
    refine ⟨F0, B, ρ, F, R, ?_⟩
    cases e : evSs C ms ρ with
    | next ρ' => rw [e] at p; exact p
    | ret d => rw [e] at p; exact p
    | bad => rw [e] at p; exact p
    | exc cn =>
      rw [e] at p
      intro A σ1 F1 H1 hm st
      have p : Pf X.kk X.mg W F0 B σ (wrSs ms) D (if cn = "NoNode" then .ret (.str "no node") else if cn = "NoText" then .ret (.str "no text") else .bad) := p
      have go : ∀ (z : Str), wd A1 A2 A z → PyData.strOk z = true → Pf X.kk X.mg W F0 B σ (wrSs ms) D (.ret (.str z)) → PySem.W.exmOne X.K (.ref A) c = some true → wAs X.K c i (fun a cls d D σ H => ∃ D0 σ0, cls = .ref D0 ∧ d = none ∧ σ = (σ0 : L2.St).set i (some (V.ref a)) ∧ ∃ z, wd A1 A2 D0 z ∧ ∀ H', Same H H' → D.rt (.str z) H') W D (.ref A) none σ1 H1 := fun z hw ho hp hx =>
        ⟨true, hx, fun _ a ha => ⟨A, σ1, rfl, rfl, rfl, z, hw, fun H' s => hp _ _ _ (st.grow s) (.str ho)⟩, fun z => nomatch z⟩
      by_cases h1 : cn = "NoNode"
      · rw [if_pos h1] at p
        subst h1
        exact go _ (.inl ⟨by have := hm.symm.trans G2.m1; cases this; rfl, rfl⟩) (by decide +kernel) p (T.e1 _ hm)
      · rw [if_neg h1] at p
        by_cases h2 : cn = "NoText"
        · rw [if_pos h2] at p
          subst h2
          exact go _ (.inr ⟨by have := hm.symm.trans G2.m2; cases this; rfl, rfl⟩) (by decide +kernel) p (T.e2 _ hm)
        · rw [if_neg h2] at p
          exact p.elim
theorem ss_tryn {x : Str} {c : Value} {body : List Stmt} {np pos' pos2 pos3 : Pos} {nj : Nat} (hs : X.stack = X.env :: X.outer) (hf : X.env.frame = some X.env.locals) (hc : Names X x c) (tk : Takes X W) (T : TreC X.K X.mg c)
    (hb : ∀ (W : WX) (pn : List (Addr × Obj)) (xe : Value → Shared → Prop), Takes (X.tr pn xe) W → PassesOwn (model X.prog X.w) X.A X.env xe → PSs (X.tr pn xe) body (sSs (X.tr pn xe) W C ms)) :
    PS X (.Try body [.ExceptHandler (some (.Name x np)) none [.Return (some (.Constant .none nj pos2)) pos3] pos'] [] [] pos) (sS X W C (.tryw false ms)) := by
  refine psImp (ps_try_only (tb := fun W => fun D σ H => ∃ F0 B ρ F, Rel X.kk F0 B ρ σ F H ∧ Pf X.kk X.mg W F0 B σ (wrSs ms) D (evSs C ms ρ)) (ts := fun a cls d D σ H => D.rt .non H) (Wout := W) hs hf hc tk (fun W pn xe t p => hb W pn xe t p) fun a oe cls d pn hz hv => ⟨fun pins s σ H D I hq => ?_⟩) fun D σ H ⟨F0, B, ρ, F, R, p⟩ => ?_
  · exact (pss_one (ps_ret pe_non)).run pins s σ H D I hq
  · rw [evS] at p
    refine ⟨F0, B, ρ, F, R, ?_⟩
    cases e : evSs C ms ρ with
    | next ρ' => rw [e] at p; exact p
    | ret d => rw [e] at p; exact p
    | bad => rw [e] at p; exact p
    | exc cn =>
      rw [e] at p
      intro A σ1 F1 H1 hm st
      have p : Pf X.kk X.mg W F0 B σ (wrSs ms) D (if cn = "NoNode" then .ret .none else if cn = "NoText" then .ret .none else .bad) := p
      have go : Pf X.kk X.mg W F0 B σ (wrSs ms) D (.ret .none) → PySem.W.exmOne X.K (.ref A) c = some true → wOnly X.K c (fun a cls d D σ H => D.rt .non H) W D (.ref A) none σ1 H1 := fun hp hx =>
        ⟨true, hx, fun _ a ha => hp _ _ _ st .non, fun z => nomatch z⟩
      by_cases h1 : cn = "NoNode"
      · rw [if_pos h1] at p
        subst h1
        exact go p (T.e1 _ hm)
      · rw [if_neg h1] at p
        by_cases h2 : cn = "NoText"
        · rw [if_pos h2] at p
          subst h2
          exact go p (T.e2 _ hm)
        · rw [if_neg h2] at p
          exact p.elim
end
end Pu
/-! ### sorting rows of tuples some of which are empty -/
namespace Pu
open PySem PySem.W PySem.SeqAt PySem.Calls PyProof.Rows
section
variable {prog : Program} {w : World} {A : Around} {E : Value → Shared → Prop} {s : Shared} {M : Model}
/-- tuples by their class's own < -/
theorem lt_tups {xs ys : List PyData} {u v : Value} {as bs : List Addr} {Q : Bool → Shared → Prop} (ra : Reads s.heap u (.tuple xs) as) (rb : Reads s.heap v (.tuple ys) bs) (hal : alikeAll xs ys = true) (hu : A.units + min (PyData.tuple xs).depth (PyData.tuple ys).depth < cLine)
    (hq : Q (dataLt (.tuple xs) (.tuple ys)) s) : wpAny (model prog w) A (oneLt' true u v) Q E s := by
  cases ra with
  | @tuple l o its n _ as1 a1 a2 a3 a4 =>
    cases rb with
    | @tuple l' o' its' n' _ bs1 b1 b2 b3 b4 =>
      have n1 : its.size = xs.length := by simpa using ReadsAll.length _ _ _ a4
      have n2 : its'.size = ys.length := by simpa using ReadsAll.length _ _ _ b4
      rw [dataLt_tuple, ← firstLt_toks xs ys hal, ← n1, ← n2] at hq
      obtain ⟨cls, dd, dat, sl⟩ := o
      obtain ⟨cls', dd', dat', sl'⟩ := o'
      have a2 : cls = .type "tuple" := a2
      have a3 : dat = .seq its n := a3
      have b2 : cls' = .type "tuple" := b2
      have b3 : dat' = .seq its' n' := b3
      subst a2 a3 b2 b3
      rw [oneLt'_eq]
      simp only [if_true]
      have he : ∀ j (h1 : j < its.size) (h2 : j < its'.size), EqAt A.in1 s its[j] its'[j] (pairEq xs ys j) := fun j h1 h2 => by
        exact eqAt_alikeAll xs ys A.in1 s its.toList its'.toList _ _ a4 b4 hal (room_in hu) j (by simpa using h1) (by simpa using h2)
      have hr : ∀ j (h1 : j < its.size) (h2 : j < its'.size), pairEq xs ys j = false → RcLt A.in1 s its[j] its'[j] (dataLt (xs.getD j .none) (ys.getD j .none)) := fun j h1 h2 hj => by
        exact rcLt_alikeAll xs ys A.in1 s its.toList its'.toList _ _ a4 b4 hal (room_in hu) j (by simpa using h1) (by simpa using h2) hj
      refine wpAny_bind (wpAny_cRoomFor (room_here hu) ?_)
      refine wpAny_bind (wpAny_callSpecialIfBound?_slot (T := "tuple") ⟨_, a1, rfl⟩ F.slot_tuple_lt ?_)
      refine call_meets F.slot_tuple_lt ⟨_, a1, rfl⟩ F.entry_tuple_lt (F.args_tuple_lt_2 _ _) (tuple_ltAt l l' its its' n n' dd dd' sl sl' (pairEq xs ys) (fun j => dataLt (xs.getD j .none) (ys.getD j .none))) ⟨a1, b1, he, hr, ?_⟩
      exact wpAny_truthy_bool hq
def isT : PyData → Bool
  | .tuple _ => true
  | _ => false
def fullT : PyData → Bool
  | .tuple (_ :: _) => true
  | _ => false
theorem firsts_of : ∀ (vs : List Value) (ds : List PyData) {Q : List (Option Value) → Shared → Prop}, EachIs (fun v d => ∃ as, Reads s.heap v d as) vs ds → (∀ d ∈ ds, isT d = true) → (∀ fs : List (Option Value), fs.map (·.isSome) = ds.map fullT → Q fs s) → wpAny M A (vs.mapM firstOfTuple') Q E s
  | _, _, Q, .nil, _, h => by
    rw [List.mapM_nil]
    exact wpAny_pure (h [] rfl)
  | _, _, Q, .cons (a := v) (b := d) (as := vs) (bs := ds) ⟨as, r⟩ t, ht, h => by
    rw [List.mapM_cons]
    refine wpAny_bind ?_
    have hd := ht d (.head _)
    match d, r, hd, h with
    | .tuple xs, r, _, h =>
      cases r with
      | @tuple l o its n _ as1 a1 a2 a3 a4 =>
        have n1 : its.size = xs.length := by simpa using ReadsAll.length _ _ _ a4
        rw [kas_first_eq]
        refine wpAny_bind (Looks.here (show Looks M s.heap (typeOf (.ref l)) o.cls from (Looks.ld a1).andThen .now) ?_)
        rw [a2, if_neg (by decide)]
        refine wpAny_bind (PyProof.Rows.listItems_at a1 a3 (wpAny_pure ?_))
        refine wpAny_bind (firsts_of vs ds (Q := fun bs s' => wpAny M A (pure (its[0]? :: bs)) Q E s') t (fun d hd => ht d (.tail _ hd)) fun fs hf => wpAny_pure (h _ ?_))
        rw [List.map_cons, List.map_cons, hf]
        congr 1
        cases xs with
        | nil =>
          have : its[0]? = none := by simp [n1]
          rw [this]; rfl
        | cons x r =>
          have : 0 < its.size := by rw [n1]; exact Nat.succ_pos _
          simp [this, fullT]

/-- what kind of keys rows of tuples have where one of them is empty -/
theorem kind_mixed {vs : List Value} {ds : List PyData} (e : EachIs (fun v d => ∃ as, Reads s.heap v d as) vs ds) (ht : ∀ d ∈ ds, isT d = true) (hm : ds.all fullT = false) (h2 : 2 ≤ vs.length) {Q : SortKind → Shared → Prop}
    (hq : Q (if (ds.head?.map fullT).getD false then general' else oneType') s) : wpAny M A (keyKind' vs.toArray) Q E s := by
  rw [kat_kind_eq, List.mapM_toArray, map_eq_pure_bind]
  refine wpAny_bind (wpAny_bind (firsts_of vs ds e ht fun fs hf => wpAny_pure ?_))
  have hall : (fs.toArray.all fun x => x.isSome) = false := by
    have q : fs.all (·.isSome) = ds.all fullT := by
      have := congrArg (fun l : List Bool => l.all id) hf
      simpa [List.all_map, Function.comp_def] using this
    rw [List.all_toArray, q, hm]
  rw [if_neg (by rw [hall]; exact Bool.false_ne_true)]
  have h0 : ((fs.toArray[0]?).bind id).isSome = (ds.head?.map fullT).getD false := by
    match fs, ds, hf with
    | [], [], _ => rfl
    | [], _ :: _, hf => cases hf
    | _ :: _, [], hf => cases hf
    | f :: fs, d :: ds, hf =>
      have := (List.cons.inj hf).1
      simpa using this
  rw [h0]
  cases hb : (ds.head?.map fullT).getD false with
  | true =>
    rw [hb] at hq
    rw [if_pos rfl]
    exact wpAny_pure hq
  | false =>
    rw [hb] at hq
    rw [if_neg Bool.false_ne_true]
    have hT : ∀ v ∈ vs, Looks M s.heap (typeOf v) (.type "tuple") := fun v hv => by
      obtain ⟨d, hd, as, r⟩ := e.left v hv
      have q := looks_reads (M := M) r
      match d, ht d hd, q with
      | .tuple _, _, q => exact q
    rw [oneTypeOnly'_eq, List.mapM_toArray, map_eq_pure_bind]
    refine wpAny_bind (wpAny_bind (wpAny_bind (kas_mapM (r := .type "tuple") _ (fun v hv Q' hq => (hT v hv).here hq) (wpAny_pure ?_))))
    match vs, h2 with
    | v1 :: v2 :: rest, _ =>
      have ha : ((List.map (fun _ => Value.type "tuple") (v1 :: v2 :: rest)).toArray.all fun x => x == Value.type "tuple") = true := by
        simp
      have h1 : (List.map (fun _ => Value.type "tuple") (v1 :: v2 :: rest)).toArray[0]? = some (.type "tuple") := by simp
      rw [h1]
      simp only [ha, if_true]
      exact wpAny_pure (wpAny_pure hq)
theorem sorts_mixed {vs : List Value} {ds : List PyData} (e : EachIs (fun v d => ∃ as, Reads s.heap v d as) vs ds) (hal : AllAlike ds) (ht : ∀ d ∈ ds, isT d = true) (hm : ds.all fullT = false) (hu : ∀ d, d ∈ ds → A.units + d.depth < cLine) : SortsAt prog w A s (dataKind s.heap ds) vs := by
  have room : ∀ {d d' : PyData}, d ∈ ds → A.units + min d.depth d'.depth < cLine := fun {d d'} hd => Nat.lt_of_le_of_lt (Nat.add_le_add_left (Nat.min_le_left _ _) _) (hu d hd)
  refine ⟨fun v hv => ?_, if (ds.head?.map fullT).getD false then general' else oneType', ?_, fun h2 E Q hq => kind_mixed e ht hm h2 hq⟩
  · obtain ⟨d, hd, as, r⟩ := e.left v hv
    exact ⟨_, dataKind_some hal hd r⟩
  · intro E x y a b Q ha hb hq
    obtain ⟨d, as, hd, ra, rfl⟩ := dataKind_inv ha
    obtain ⟨d', as', hd', rb, rfl⟩ := dataKind_inv hb
    have hq' : Q (dataLt d d') s := hq
    have hdd := hal d hd d' hd'
    have hroom := room (d' := d') hd
    match d, d', ht d hd, ht d' hd', ra, rb, hq', hdd, hroom with
    | .tuple xs, .tuple ys, _, _, ra, rb, hq', hdd, hroom =>
      cases (ds.head?.map fullT).getD false with
      | true =>
        rw [if_pos rfl]
        show wpAny _ _ (oneLt' false x y) _ _ _
        exact oneLt_alike (fun z => nomatch z) ra rb hdd (fun z => nomatch z) hroom hq'
      | false =>
        rw [if_neg Bool.false_ne_true, keyLt'_oneType]
        exact lt_tups ra rb (by simpa [alike] using hdd) hroom hq'
end
end Pu
namespace Pu
open PySem PySem.Spec PySem.W PySem.SeqAt PySem.Calls PyProof.Rows L2
section
variable {prog : Program} {w : World} {A : Around} {s : Shared}
theorem alike_isT {a b : PyData} (h : alike a b = true) : isT a = isT b := by
  cases a <;> cases b <;> first | rfl | exact absurd h (by simp [alike])
theorem sorts_any {vs : List Value} {ds : List PyData} (e : EachIs (fun v d => ∃ as, Reads s.heap v d as) vs ds) (hal : AllAlike ds) (hn : ∀ d ∈ ds, d ≠ .none) (hu : ∀ d, d ∈ ds → A.units + d.depth < cLine) : SortsAt prog w A s (dataKind s.heap ds) vs := by
  by_cases h : ∃ d ∈ ds, isT d = true
  · obtain ⟨d0, h0, t0⟩ := h
    have ht : ∀ d ∈ ds, isT d = true := fun d hd => by rw [alike_isT (hal d hd d0 h0)]; exact t0
    cases hm : ds.all fullT with
    | true =>
      refine SortsAt.data e hal (.inl fun d hd => ?_) hu
      have q := List.all_eq_true.mp hm d hd
      match d, q with
      | .tuple (x :: r), _ => exact ⟨x, r, rfl⟩
    | false => exact sorts_mixed e hal ht hm hu
  · refine SortsAt.data e hal (.inr fun d hd => ⟨hn d hd, fun xs z => h ⟨d, hd, by rw [z]; rfl⟩⟩) hu
end
theorem dvs_pairs {K : PySem.W.Frag} {F : Hp} : ∀ {l : List (V × D)}, (∀ p ∈ l, DV K F p.1 p.2) → DVs K F (l.map Prod.fst) (l.map Prod.snd)
  | [], _ => .nil
  | p :: l, h => .cons (h p (.head _)) (dvs_pairs fun q hq => h q (.tail _ hq))
theorem dvs_zip {K : PySem.W.Frag} {F : Hp} : ∀ {vs : List V} {ds : List D}, DVs K F vs ds → (∀ p ∈ vs.zip ds, DV K F p.1 p.2) ∧ (vs.zip ds).map Prod.snd = ds ∧ (vs.zip ds).map Prod.fst = vs
  | vs, [], h => by rw [h.unnil]; exact ⟨fun p hp => (by cases hp), rfl, rfl⟩
  | vs, d :: ds, h => by
    obtain ⟨v, r, rfl, h1, h2⟩ := h.uncons
    obtain ⟨a, b, c⟩ := dvs_zip h2
    refine ⟨fun p hp => ?_, by rw [List.zip_cons_cons, List.map_cons, b], by rw [List.zip_cons_cons, List.map_cons, c]⟩
    rcases List.mem_cons.mp hp with e | hp
    · rw [e]; exact h1
    · exact a p hp
theorem each_vals : ∀ {l : List (V × D)} {us : List Value}, Vals (l.map Prod.fst) us → EachIs (fun u (p : V × D) => RelV p.1 u) us l
  | [], _, h => by
    have h : Vals [] _ := h
    cases h
    exact .nil
  | p :: l, _, h => by
    have h : Vals (p.1 :: l.map Prod.fst) _ := h
    cases h with
    | cons a b => exact .cons a (each_vals b)
theorem vals_each : ∀ {l : List (V × D)} {us : List Value}, EachIs (fun u (p : V × D) => RelV p.1 u) us l → Vals (l.map Prod.fst) us
  | _, _, .nil => .nil
  | _, _, .cons a b => .cons a (vals_each b)
section
variable {prog : Program} {w : World} {A : Around} {s : Shared} {E : Value → Shared → Prop} {κ : PyProof.Rows.KeyKind}
/-- a tuple's items, gathered -/
theorem collect_tup {p : Addr} {us : List Value} {R : List Value → Shared → Prop} (tp : IsTup s.heap p us.toArray) (few : us.length ≤ sizeLine)
    (k : R us { s with heap := (s.heap.push (seqObj "list" #[] 0)).update s.heap.objs.size (Obj.mapSeq (· ++ us.toArray)) }) : wpAny (model prog w) A (collect (.ref p)) R E s := by
  obtain ⟨ob, go, cl, m, dt⟩ := id tp
  unfold collect
  refine wpAny_bind (wpAny_runValue (codeAny_builtin entry_proto_collect' ?g1))
  case g1 =>
  show wpAny _ _ (do again (.builtin "list.__iadd__" ⟨[← newList [], .ref p], []⟩)) _ _ s
  refine wpAny_bind (wpAny_newList (wpAny_pure ⟨Code.quiet_builtin _ (by decide +kernel), codeAny_builtin entry_list_iadd' ?g2⟩))
  case g2 =>
  show wpAny _ _ (Builtin.List.listExtendWith (.ref s.heap.objs.size) (.ref p) (.ref s.heap.objs.size)) _ _ { s with heap := s.heap.push (seqObj "list" #[] 0) }
  (unfold Builtin.List.listExtendWith)
  have go2 : (s.heap.push (seqObj "list" #[] 0)).get? p = some ob := Heap.get?_push_of_some _ go
  refine wpAny_bind (wpAny_typeOf (T := "tuple") ⟨ob, go2, cl⟩ ?g3)
  case g3 =>
  have tt : (Value.type "tuple" == Value.type "tuple") = true := by rfl
  rw [if_pos (by rw [tt]; simp)]
  refine wpAny_bind (listItems_at go2 dt ?g4)
  case g4 =>
  refine wpAny_bind (listItems_at (xs := #[]) (n := 0) (Heap.get?_push_size _ rfl) rfl ?g5)
  case g5 =>
  rw [if_neg (by simp)]
  refine wpAny_bind (listUpdate_at (xs := #[]) (n := 0) (Heap.get?_push_size _ rfl) rfl ?g6 (Nat.zero_le _) (by show (#[] ++ us.toArray).size ≤ sizeLine + 1; simp only [Array.size_append, List.size_toArray, List.length_nil]; omega))
  case g6 =>
  refine wpAny_pure ?g7
  case g7 =>
  show wpAny (model prog w) A (do
      let ob ← load s.heap.objs.size
      match ob.data with
      | .seq zs _ => pure zs.toList
      | _ => unsupported "internal:collect") R E { s with heap := (s.heap.push (seqObj "list" #[] 0)).update s.heap.objs.size (Obj.mapSeq (· ++ us.toArray)) }
  refine wpAny_bind (wpAny_load (get?_update_seq (Heap.get?_push_size _ rfl) _) ?g8)
  case g8 =>
  show wpAny _ _ (pure ((#[] : Array Value) ++ us.toArray).toList) R E _
  rw [show ((#[] : Array Value) ++ us.toArray).toList = us by simp]
  exact wpAny_pure k
/-- sorted(a tuple): a new list, the sorted one -/
theorem sorted_vals_t {p : Addr} {us : List Value} {R : Value → Shared → Prop} (tp : IsTup s.heap p us.toArray) (S : SortsAt prog w A.in1.in1 { s with heap := sortingHeap (copyHeap s.heap us) (s.heap.objs.size + 1) us } κ us) (few : us.length ≤ sizeLine)
    (k : R (.ref (s.heap.objs.size + 1)) { s with heap := sortedAll s.heap us (sortVals κ false us us).toArray }) : wpAny (model prog w) A (call (.builtin "sorted") [.ref p]) R E s := by
  have body : ∀ E2 : Value → Shared → Prop, wpAny (model prog w) A.in1.in1 (Builtin.«list.sort» ⟨[.ref (s.heap.objs.size + 1)], []⟩) (fun f z => f = .done (.ret .none) ∧ R (.ref (s.heap.objs.size + 1)) z) E2 { s with heap := copyHeap s.heap us } := fun _ =>
    list_sort_vals (s := { s with heap := copyHeap s.heap us }) (copyHeap_at s.heap us) S few ⟨rfl, k⟩
  refine call_function_entry_kw kind_sorted plain_sorted entry_sorted (args_sorted1 _) ?f1
  case f1 =>
  unfold Builtin.«sorted»
  refine wpAny_bind (m := checkCount "sorted" 1 1 _) (wpAny_pure ?f2)
  case f2 =>
  refine wpAny_bind (collect_tup tp few ?f3)
  case f3 =>
  refine wpAny_bind (wpAny_newList ?f4 few)
  case f4 =>
  have size2 : ((s.heap.push (seqObj "list" #[] 0)).update s.heap.objs.size (Obj.mapSeq (· ++ us.toArray))).objs.size = s.heap.objs.size + 1 := by
    exact (Heap.size_update _ _ _).trans (size_push' _ _)
  show wpAny _ _ _ _ _ { s with heap := copyHeap s.heap us }
  rw [size2]
  refine wpAny_bind (wpAny_holding (wpAny_call_entry_kw slot_list_sort ⟨_, copyHeap_at s.heap us, rfl⟩ entry_list_sort ?f5 (args_list_sort _)))
  case f5 =>
    show wpAny (model prog w) A.in1.in1 (Builtin.«list.sort» ⟨[.ref (s.heap.objs.size + 1)], []⟩) _ _ _
    refine wpAny_mono (body _) (fun f z hz => ?f6) fun _ _ e => e
    case f6 =>
    obtain ⟨rfl, hR⟩ := hz
    exact ⟨_, rfl, wpAny_pure ⟨_, rfl, hR⟩⟩
end
section
variable {X : Cx}
theorem cl_sorted (hu : X.A.units + 100 < cLine) : CallR X (.builtin "sorted") (rCl X.K (biD .sorted)) := by
  intro pins s σ H xs us Q I r h
  obtain ⟨F, ds, d, sF, hd, e, q⟩ := h
  match ds, e, hd with
  | [.list ys], e, hd =>
    obtain ⟨v, rfl, dv⟩ := hd.one
    obtain ⟨p, vs, rfl, h1, h2⟩ := dv.unlst
    obtain ⟨zs, e1, e2⟩ := bind_inv (show (sortD ys).bind (fun ys => Rs.ok (PyData.list ys)) = .ok d from e)
    obtain ⟨g, e3⟩ := guard_ok e1
    have e3 := okInj e3
    have e2 := okInj e2
    subst e2 e3
    obtain ⟨g, g3⟩ := (by rwa [Bool.and_eq_true] at g : _ ∧ _)
    obtain ⟨g1, g2⟩ := (by rwa [Bool.and_eq_true] at g : _ ∧ _)
    have hal : AllAlike ys := fun a ha b hb => List.all_eq_true.mp (List.all_eq_true.mp g1 a ha) b hb
    have hdp : ∀ a ∈ ys, a.depth ≤ 64 := fun a ha => of_decide_eq_true (List.all_eq_true.mp g2 a ha)
    have hnn : ∀ a ∈ ys, a ≠ .none := fun a ha z => by
      have := List.all_eq_true.mp g3 a ha
      rw [z] at this
      cases this
    rw [Vals.ref1 r]
    obtain ⟨its, rv, pl, hz⟩ := I.list (.of (sF _ _ h1))
    obtain ⟨z1, z2, z3⟩ := dvs_zip h2
    obtain ⟨as, ra⟩ := Dp.readsAll I ys vs its (dqsDp ys vs (dqsMono sF ys vs h2.dp)) rv
    generalize hb : vs.zip ys = bs at z1 z2 z3
    subst z2 z3
    have er : EachIs (fun u (b : V × D) => ∃ as, Reads s.heap u b.2 as) its bs := readsAll_each Prod.snd ra
    have ev := each_vals rv
    have er' : EachIs (fun u (b : V × D) => ∃ as, Reads (sortingHeap (copyHeap s.heap its) (s.heap.objs.size + 1) its) u b.2 as) its bs := er.mono fun _ _ ⟨as, r⟩ => ⟨as, PyProof.Rows.Reads.keeps (fun _ _ => sorting_copy_old) r⟩
    have hlen : its.length = bs.length := ev.length
    have hzz : its.length ≤ sizeLine := by rw [List.length_map] at hz; omega
    refine sorted_vals (κ := dataKind (sortingHeap (copyHeap s.heap its) (s.heap.objs.size + 1) its) (bs.map Prod.snd)) pl.isList (sorts_any (s := { s with heap := sortingHeap (copyHeap s.heap its) (s.heap.objs.size + 1) its }) (each_map (R := fun v d => ∃ as, Reads (sortingHeap (copyHeap s.heap its) (s.heap.objs.size + 1) its) v d as) Prod.snd er') hal hnn fun d hd => ?_) hzz ?_
    · have := hdp d hd
      show X.A.units + 1 + 1 + d.depth < cLine
      omega
    · have eo := sortVals_data false ev er' hal
      generalize sortVals (dataKind (sortingHeap (copyHeap s.heap its) (s.heap.objs.size + 1) its) (bs.map Prod.snd)) false its its = out at eo
      obtain ⟨ep, he'⟩ := PyProof.Rows.sortedAll_at s.heap its out.toArray
      have hn : H (s.heap.objs.size + 1) = none := I.hok.fresh (Nat.le_succ _)
      have hm : (bs.mergeSort (dataLe false Prod.snd)).map Prod.snd = (bs.map Prod.snd).mergeSort (dataLe false id) := List.map_mergeSort fun a _ b _ => rfl
      have dv' : DVs X.K F ((bs.mergeSort (dataLe false Prod.snd)).map Prod.fst) ((bs.mergeSort (dataLe false Prod.snd)).map Prod.snd) := dvs_pairs fun p hp => z1 p ((List.mergeSort_perm _ _).mem_iff.mp hp)
      rw [hm] at dv'
      have hl2 : ((bs.mergeSort (dataLe false Prod.snd)).map Prod.fst).length ≤ sizeLine := by
        rw [List.length_map, (List.mergeSort_perm _ _).length_eq]; omega
      exact ⟨.ref _, upd H (s.heap.objs.size + 1) (.lst ((bs.mergeSort (dataLe false Prod.snd)).map Prod.fst)), I.laid (t' := s.toks) (fun _ _ => PyProof.Rows.sortedAll_old) (Nat.le_succ _) ⟨hl2, out, ep, vals_each eo, he'⟩, rfl, q _ _ _ (Stp.laid sF hn _) (.newLst dv' (sF.free hn))⟩
  | [.tuple ys], e, hd =>
    obtain ⟨v, rfl, dv⟩ := hd.one
    obtain ⟨p, vs, rfl, h1, h2⟩ := dv.untup
    obtain ⟨zs, e1, e2⟩ := bind_inv (show (sortD ys).bind (fun ys => Rs.ok (PyData.list ys)) = .ok d from e)
    obtain ⟨g, e3⟩ := guard_ok e1
    have e3 := okInj e3
    have e2 := okInj e2
    subst e2 e3
    obtain ⟨g, g3⟩ := (by rwa [Bool.and_eq_true] at g : _ ∧ _)
    obtain ⟨g1, g2⟩ := (by rwa [Bool.and_eq_true] at g : _ ∧ _)
    have hal : AllAlike ys := fun a ha b hb => List.all_eq_true.mp (List.all_eq_true.mp g1 a ha) b hb
    have hdp : ∀ a ∈ ys, a.depth ≤ 64 := fun a ha => of_decide_eq_true (List.all_eq_true.mp g2 a ha)
    have hnn : ∀ a ∈ ys, a ≠ .none := fun a ha z => by
      have := List.all_eq_true.mp g3 a ha
      rw [z] at this
      cases this
    rw [Vals.ref1 r]
    obtain ⟨its, rv, pl, hz⟩ := I.tuple (sameT sF h1)
    obtain ⟨z1, z2, z3⟩ := dvs_zip h2
    obtain ⟨as, ra⟩ := Dp.readsAll I ys vs its (dqsDp ys vs (dqsMono sF ys vs h2.dp)) rv
    generalize hb : vs.zip ys = bs at z1 z2 z3
    subst z2 z3
    have er : EachIs (fun u (b : V × D) => ∃ as, Reads s.heap u b.2 as) its bs := readsAll_each Prod.snd ra
    have ev := each_vals rv
    have er' : EachIs (fun u (b : V × D) => ∃ as, Reads (sortingHeap (copyHeap s.heap its) (s.heap.objs.size + 1) its) u b.2 as) its bs := er.mono fun _ _ ⟨as, r⟩ => ⟨as, PyProof.Rows.Reads.keeps (fun _ _ => sorting_copy_old) r⟩
    have hlen : its.length = bs.length := ev.length
    have hzz : its.length ≤ sizeLine := by rw [List.length_map] at hz; omega
    refine sorted_vals_t (κ := dataKind (sortingHeap (copyHeap s.heap its) (s.heap.objs.size + 1) its) (bs.map Prod.snd)) pl (sorts_any (s := { s with heap := sortingHeap (copyHeap s.heap its) (s.heap.objs.size + 1) its }) (each_map (R := fun v d => ∃ as, Reads (sortingHeap (copyHeap s.heap its) (s.heap.objs.size + 1) its) v d as) Prod.snd er') hal hnn fun d hd => ?_) hzz ?_
    · have := hdp d hd
      show X.A.units + 1 + 1 + d.depth < cLine
      omega
    · have eo := sortVals_data false ev er' hal
      generalize sortVals (dataKind (sortingHeap (copyHeap s.heap its) (s.heap.objs.size + 1) its) (bs.map Prod.snd)) false its its = out at eo
      obtain ⟨ep, he'⟩ := PyProof.Rows.sortedAll_at s.heap its out.toArray
      have hn : H (s.heap.objs.size + 1) = none := I.hok.fresh (Nat.le_succ _)
      have hm : (bs.mergeSort (dataLe false Prod.snd)).map Prod.snd = (bs.map Prod.snd).mergeSort (dataLe false id) := List.map_mergeSort fun a _ b _ => rfl
      have dv' : DVs X.K F ((bs.mergeSort (dataLe false Prod.snd)).map Prod.fst) ((bs.mergeSort (dataLe false Prod.snd)).map Prod.snd) := dvs_pairs fun p hp => z1 p ((List.mergeSort_perm _ _).mem_iff.mp hp)
      rw [hm] at dv'
      have hl2 : ((bs.mergeSort (dataLe false Prod.snd)).map Prod.fst).length ≤ sizeLine := by
        rw [List.length_map, (List.mergeSort_perm _ _).length_eq]; omega
      exact ⟨.ref _, upd H (s.heap.objs.size + 1) (.lst ((bs.mergeSort (dataLe false Prod.snd)).map Prod.fst)), I.laid (t' := s.toks) (fun _ _ => PyProof.Rows.sortedAll_old) (Nat.le_succ _) ⟨hl2, out, ep, vals_each eo, he'⟩, rfl, q _ _ _ (Stp.laid sF hn _) (.newLst dv' (sF.free hn))⟩
end
end Pu
/-! ### a set of rows of whole numbers, the list of any length -/
namespace Pu
open PySem PySem.Spec PySem.W PySem.Calls PyProof.Rows L2
section
variable {P : Program} {w : World} {A : Around} {E : Value → Shared → Prop}
abbrev Ks := List (Addr × List Int)
/-- few different ones -/
def Few (ks : Ks) : Prop := ∀ L : Ks, (L.map (·.2)).Nodup → (∀ p ∈ L, p ∈ ks) → L.length ≤ 62
/-- one item more -/
theorem set_more {s : Shared} {S : Addr} {ks L : Ks} {es : Array (Int × Value)} {ep i : Nat} {t : SetTable} {p : Addr × List Int} {Q : Bool → Shared → Prop} (few : Few ks) (R : SetTR P w s.heap S L es ep t) (g : Got ks i L) (hp : ks[i]? = some p) (hx : IsT P w s.heap p.2 p.1) (hu : A.units < cLine)
    (h : ∀ (b : Bool) (h' : Heap) (tk : Nat) L' es' ep' t', s.toks ≤ tk → Heap.SameBut S s.heap h' → SetTR P w h' S L' es' ep' t' → Got ks (i + 1) L' → Q b { s with heap := h', toks := tk }) :
    wpAny (model P w) A (setAdd S (.ref p.1)) Q E s := by
  have n62 := few L R.nd fun q hq => List.mem_of_mem_take (g.sub q hq)
  unfold setAdd
  refine wpAny_holding (wpAny_bind (wpAny_pyHash_tuple hu hx ?_))
  refine add_at (s := { s with toks := s.toks + (p.2.length + 1) }) R hx hu (by omega) fun b h' L' es' ep' t' same R' c1 c2 => ?_
  refine h b h' _ L' es' ep' t' (Nat.le_add_right _ _) same R' ?_
  by_cases c : p.2 ∈ L.map (·.2)
  · rw [c1 c]
    exact g.same hp c
  · exact g.more hp (c2 c)
/-- the state in the loop of set.update: the old objects stand, the set has what the first i items are -/
structure Mid (P : Program) (w : World) (base : Heap) (S : Addr) (ks : Ks) (i : Nat) (h : Heap) : Prop where
  old : ∀ b o, base.get? b = some o → h.get? b = some o
  ex : ∃ L es ep t, SetTR P w h S L es ep t ∧ Got ks i L
theorem set_fill {I : Addr} {fp wr : List Addr} {G : Array GenState → Array GenState → Prop} {n : Nat} {Pv : Nat → Value → Prop} {St : Nat → Shared → Prop} {R : Result → Shared → Prop} (W : WalksS P w A.in1 I fp wr G n Pv St) {S : Addr} (out : S ∉ fp) {ks : Ks} (len : n = ks.length) (few : Few ks)
    (item : ∀ i v, Pv i v → ∃ p, ks[i]? = some p ∧ v = .ref p.1) {base : Heap} (rows : ∀ p ∈ ks, IsT P w base p.2 p.1) (bS : base.get? S = none) (bw : ∀ b ∈ wr, base.get? b = none) (hu : A.in1.units < cLine) :
    ∀ (k i : Nat) (s : Shared), n - i = k → i ≤ n → St i s → Mid P w base S ks i s.heap → (∀ s', Moved (S :: wr) G s s' → Mid P w base S ks n s'.heap → R (.ok (.ret .none)) s') →
      codeAny (model P w) A (.builtin "set.update.loop" ⟨[.ref S, .ref I], []⟩) R s := by
  have notw : S ∉ wr := fun z => out (W.sub _ z)
  have wider : ∀ b ∈ wr, b ∈ S :: wr := fun b z => .tail _ z
  -- a step of the walk keeps all that
  have step : ∀ {i : Nat} {s s' : Shared}, Moved wr G s s' → Mid P w base S ks i s.heap → Mid P w base S ks i s'.heap := fun {i s s'} m ⟨k1, L, es, ep, t, r, g⟩ => by
    have k2 : ∀ b o, base.get? b = some o → s'.heap.get? b = some o := fun b o e => m.heap b o (fun z => by rw [bw b z] at e; cases e) (k1 b o e)
    exact ⟨k2, L, es, ep, t, r.keep (fun o e => m.heap S o notw e) fun q hq => isT_keep (rows q (List.mem_of_mem_take (g.sub q hq))) k2, g⟩
  intro k
  induction k with
  | zero =>
    intro i s hk hi st m fin
    have e : i = n := by omega
    subst e
    refine codeAny_builtin F.entry_set_update_loop ?_
    rw [Around.under_plainId F.plain_set_update_loop]
    refine wpAny_bind (W.done s _ _ st fun s' mv => ?_)
    exact wpAny_pure (fin s' (mv.mono wider) (step mv m))
  | succ k ih =>
    intro i s hk hi st m fin
    have lt : i < n := by omega
    refine codeAny_builtin F.entry_set_update_loop ?_
    rw [Around.under_plainId F.plain_set_update_loop]
    refine wpAny_bind (W.item i s _ _ lt st fun v s' pv st' mv => ?_)
    obtain ⟨p, hp, rfl⟩ := item i v pv
    obtain ⟨k1, L, es, ep, t, r, g⟩ := step mv m
    refine wpAny_bind (wpAny_holding (set_more few r g hp (isT_keep (rows p (List.mem_of_getElem? hp)) k1) hu fun b h' tk L' es' ep' t' le same r' g' => ?_))
    have k3 : ∀ b o, base.get? b = some o → h'.get? b = some o := fun b o e => (same.2 b (fun z => by rw [z, bS] at e; cases e)).trans (k1 b o e)
    refine wpAny_pure ⟨plainId_quiet F.plain_set_update_loop _, ih (i + 1) _ (by omega) lt (W.frame _ s' _ _ st' le fun b hb o e => ?_) ⟨k3, L', es', ep', t', r', g'⟩ fun s2 mv2 m2 => ?_⟩
    · rw [same.2 b (fun z => out (by rw [← z]; exact hb))]
      exact e
    · refine fin s2 (Moved.trans W.gtrans ((mv.mono wider).then_heap le fun b o hb e => ?_) mv2) m2
      rw [same.2 b (fun z => hb (by rw [z]; exact .head _))]
      exact e

abbrev set0 (w : World) : Obj := { cls := .type "set", dict := none, data := .set #[] 0 (.fresh 0 0 (!w.params.followText "set-order")) }
set_option maxHeartbeats 3200000 in
/-- set(xs) -/
theorem set_call {s : Shared} {l : Addr} {its : Array Value} {ks : Ks} {Q : Value → Shared → Prop} (few : Few ks) (quiet : A.handled = none) (hl : s.heap.IsList l its) (hit : its.toList = ks.map fun p => Value.ref p.1) (rows : ∀ p ∈ ks, IsT P w s.heap p.2 p.1) (hu : A.units + 3 < cLine)
    (fin : ∀ (h' : Heap) (tk : Nat), Mid P w s.heap s.heap.objs.size ks ks.length h' → Q (.ref s.heap.objs.size) { s with heap := h', toks := tk }) : wpAny (model P w) A (call (.type "set") [.ref l]) Q E s := by
  have size : its.size = ks.length := by
    rw [← Array.length_toList, hit, List.length_map]
  obtain ⟨c, tl, mro⟩ := F.called_set.mro
  have made := F.called_set.made
  have sub := F.called_set.sub
  refine wpAny_call (codeAny_of_tree ?_)
  show wpAny _ _ (callAny (.type "set") _) _ _ _
  refine wpAny_pure ⟨Code.quiet_builtin _ (by decide +kernel), codeAny_builtin F.entry_type_call ?_⟩
  rw [Around.under_plain (weight_type_call_type "set" [.ref l] []) rfl]
  have p1 := F.called_set.notType
  have p2 := F.called_set.canCreate
  have p3 := F.typeCall_set_1 (.ref l)
  repeat (any_goals (first | assumption | wp_step))
  refine codeAny_mono (code_set_led1 (.ref l) (E := E) (Q₁ := fun o s₁ => o = .ref s.heap.objs.size ∧ s₁ = { s with heap := s.heap.push (set0 w) }) ⟨rfl, rfl⟩) fun r s₁ hr => ?_
  cases r with
  | error e => exact hr
  | ok f1 => cases f1 with
    | ret o =>
      obtain ⟨rfl, rfl⟩ := hr
      have at0 : (s.heap.push (set0 w)).get? s.heap.objs.size = some (set0 w) := Heap.get?_push_size _ rfl
      have ty : Shared.TypeIs { s with heap := s.heap.push (set0 w) } (.ref s.heap.objs.size) "set" := ⟨_, at0, rfl⟩
      have i1 := F.called_set.init.lookup
      have i2 := F.called_set.init.bind (.ref s.heap.objs.size)
      repeat (any_goals (first | assumption | wp_step))
      refine codeAny_mono (codeAny_call_builtin (R := wants (fun r s₂ => r = .none ∧ ∃ h' tk, s₂ = { s with heap := h', toks := tk } ∧ Mid P w s.heap s.heap.objs.size ks ks.length h') E) F.called_set.init.plain F.entry_set_init (check_set_init_1 ty ?_)) fun r₂ s₂ hr₂ => ?_
      · obtain ⟨⟨cl, di, da, slo⟩, ol, c1, nl, c2⟩ := hl
        have c1 : cl = .type "list" := c1
        have c2 : da = .seq its nl := c2
        subst c1 c2
        have o1 : (s.heap.push (set0 w)).get? l = some { cls := .type "list", dict := di, data := .seq its nl, slots := slo } := Heap.get?_push_of_some _ ol
        have b1 := F.sub_list_set
        have b2 := F.sub_list_frozenset
        have b3 : (Value.type "list" == Value.type "dict") = false := by decide
        have l1 : (s.heap.push (set0 w)).IsList l its := ⟨_, o1, rfl, nl, rfl⟩
        unfold Builtin.«set.__init__» noKeywords Builtin.Frozenset.updateFrom
        generalize itE : pyIter = it
        wp_walk
        subst itE
        refine wpAny_pyIter_list l1 (wpAny_bind (wpAny_runValue ?_))
        have lt : l < s.heap.objs.size := Heap.lt_size ol
        have q3 : A.in1.in1.in1.handled = none := by simp [quiet]
        have ne : l ≠ (s.heap.push (set0 w)).objs.size := by
          rw [Heap.size_push]
          exact Nat.ne_of_lt (Nat.lt_succ_of_lt lt)
        have away : s.heap.objs.size ∉ [(s.heap.push (set0 w)).objs.size, l] := by
          rw [Heap.size_push]
          intro z
          rcases List.mem_cons.mp z with z | z
          · exact absurd z (Nat.ne_of_lt (Nat.lt_succ_self _))
          · exact absurd (List.mem_singleton.mp z) (Nat.ne_of_gt lt)
        have item : ∀ (i : Nat) (v : Value), its[i]? = some v → ∃ p, ks[i]? = some p ∧ v = .ref p.1 := fun i v hv => by
          rw [← Array.getElem?_toList, hit, List.getElem?_map] at hv
          obtain ⟨p, a1, a2⟩ := Option.map_eq_some_iff.mp hv
          exact ⟨p, a1, a2.symm⟩
        have new : ∀ b, s.heap.objs.size ≤ b → s.heap.get? b = none := fun b hb => by
          cases q : s.heap.get? b with
          | none => rfl
          | some o => exact absurd (Heap.lt_size q) (Nat.not_lt.mpr hb)
        have w0 : ((s.heap.push (set0 w)).push { cls := .type "list_iterator", data := .fields #[.ref l, .int 0 0] }).get? s.heap.objs.size = some (set0 w) := Heap.get?_push_of_some _ at0
        refine set_fill ((Walks.list q3 _ l ne its).toS) away size few item rows (new _ (Nat.le_refl _)) (fun b hb => new b ?_) hu (its.size - 0) 0 _ (by omega) (Nat.zero_le _) ⟨⟨_, Heap.get?_push_size _ rfl, rfl, rfl⟩, l1.push _⟩
          ⟨fun b o e => Heap.get?_push_of_some _ (Heap.get?_push_of_some _ e), [], #[], 0, _, setTR_fresh w0, Got.zero ks⟩ ?_
        · rw [List.mem_singleton.mp hb, Heap.size_push]
          exact Nat.le_succ _
        · intro s' mv m
          obtain ⟨h', g2, d2, tk2, os2⟩ := s'
          have x1 : g2 = s.gens := mv.gens
          have x2 : d2 = s.drawn := mv.drawn
          have x3 : os2 = s.os := mv.os
          subst x1 x2 x3
          refine wpAny_pure (wpAny_pure ⟨rfl, h', tk2, rfl, ?_⟩)
          rw [size] at m
          exact m
      · cases r₂ with
        | error e => exact hr₂
        | ok f2 => cases f2 with
          | ret r =>
            obtain ⟨rfl, h', tk, rfl, m⟩ := hr₂
            repeat (any_goals (first | assumption | wp_step))
            exact fin h' tk m
          | _ => exact hr₂.elim
    | _ => exact hr.elim
end
end Pu
/-! ### sorted(set(rows)) -/
namespace Pu
open PySem PySem.Spec PySem.W PySem.SeqAt PySem.Calls PyProof.Rows L2
/-! the order is one -/
theorem toks_same {x y : PyData} (h : alike x y = true) (e : keyToks x = keyToks y) : PyData.eqv x y = true := by
  cases q : PyData.eqv x y with
  | true => rfl
  | false =>
    have z := (toks_eqv x y h).2 q [] [Sum.inl 1]
    rw [e, lex_pre, lex_irrefl] at z
    exact absurd z (by decide)
theorem alike_rows (xs ys : List Int) : alike (encR xs) (encR ys) = true := by
  have q := alike_ints xs ys
  simpa [alike, encR] using q
theorem eqv_rows : ∀ xs ys : List Int, PyData.eqvAll (xs.map .int) (ys.map .int) = true → xs = ys
  | [], [], _ => rfl
  | [], _ :: _, h => by simp [PyData.eqvAll] at h
  | _ :: _, [], h => by simp [PyData.eqvAll] at h
  | x :: xs, y :: ys, h => by
    simp only [List.map_cons, PyData.eqvAll, PyData.eqv, Bool.and_eq_true, beq_iff_eq] at h
    rw [h.1, eqv_rows xs ys h.2]
abbrev leR : List Int → List Int → Bool := dataLe false encR
theorem leR_anti (a b : List Int) (h1 : leR a b = true) (h2 : leR b a = true) : a = b := by
  have k1 : dataLt (encR b) (encR a) = false := by simpa [dataLe_eq] using h1
  have k2 : dataLt (encR a) (encR b) = false := by simpa [dataLe_eq] using h2
  have e : keyToks (encR a) = keyToks (encR b) := lex_total _ _ k2 k1
  have q := toks_same (alike_rows a b) e
  exact eqv_rows a b (by simpa [encR, PyData.eqv] using q)
theorem leR_total : TotalLe leR := sortLe_total _ _ _
theorem sort_sorted (l : List (List Int)) : (l.mergeSort leR).Pairwise (fun a b => leR a b = true) := List.pairwise_mergeSort leR_total.trans (fun a b => by
  rw [Bool.or_eq_true]; exact leR_total.total a b) l
theorem sort_unique {a b : List (List Int)} (p : a.Perm b) : a.mergeSort leR = b.mergeSort leR :=
  List.Perm.eq_of_pairwise (fun x y _ _ => leR_anti x y) (sort_sorted a) (sort_sorted b) ((List.mergeSort_perm _ _).trans (p.trans (List.mergeSort_perm _ _).symm))
theorem nodup_dups {α : Type} [BEq α] [LawfulBEq α] : ∀ (n : Nat) (l : List α), l.length ≤ n → l.eraseDups.Nodup
  | _, [], _ => by simp
  | n + 1, a :: l, h => by
    rw [List.eraseDups_cons]
    refine List.nodup_cons.mpr ⟨fun z => ?_, nodup_dups n _ (Nat.le_trans (List.length_filter_le _ _) (Nat.le_of_succ_le_succ h))⟩
    have := List.mem_filter.mp (List.mem_eraseDups.mp z)
    simp at this
theorem perm_of_nodup {α : Type} {a b : List α} (ha : a.Nodup) (hb : b.Nodup) (h : ∀ x, x ∈ a ↔ x ∈ b) : a.Perm b := (List.perm_ext_iff_of_nodup ha hb).mpr h
theorem perm_map_inv {α β : Type} {f : α → β} {l m : List β} (p : l.Perm m) : ∀ (L : List α), m = L.map f → ∃ L' : List α, L'.Perm L ∧ l = L'.map f := by
  induction p with
  | nil => intro L h; exact ⟨[], by rw [List.map_eq_nil_iff.mp h.symm], rfl⟩
  | cons a p ih =>
    intro L h
    match L, h with
    | x :: L, h =>
      obtain ⟨h1, h2⟩ := List.cons.inj h
      obtain ⟨L', q, e⟩ := ih L h2
      exact ⟨x :: L', q.cons x, by rw [List.map_cons, ← h1, e]⟩
  | swap a b l =>
    intro L h
    match L, h with
    | x :: y :: L, h =>
      obtain ⟨h1, h2⟩ := List.cons.inj h
      obtain ⟨h2, h3⟩ := List.cons.inj h2
      exact ⟨y :: x :: L, .swap _ _ _, by rw [List.map_cons, List.map_cons, ← h1, ← h2, h3]⟩
  | trans p q ih1 ih2 =>
    intro L h
    obtain ⟨L1, q1, e1⟩ := ih2 L h
    obtain ⟨L2, q2, e2⟩ := ih1 L1 e1
    exact ⟨L2, q2.trans q1, e2⟩
section
variable {P : Program} {w : World} {A : Around} {E : Value → Shared → Prop} {s : Shared}
abbrev encK (p : Addr × List Int) : D := encR p.2
theorem isT_reads {h : Heap} {k : List Int} {b : Addr} (x : IsT P w h k b) : ∃ as, Reads h (.ref b) (encR k) as := by
  obtain ⟨o, items, n, ho, hc, hd, hi⟩ := x
  have go : ∀ {k : List Int} {vs : List Value}, ItemsAre (intKind P w) k vs → ∃ as, ReadsAll h vs (k.map .int) as := by
    intro k vs hi
    induction hi with
    | nil => exact ⟨[], .nil⟩
    | @cons k0 v ks vs h1 _ ih =>
      obtain ⟨t, rfl⟩ := Value.isInt_shape h1
      obtain ⟨as, r⟩ := ih
      exact ⟨_, .cons (.int k0 t) r⟩
  obtain ⟨as, r⟩ := go hi
  exact ⟨_, .tuple ho hc hd r⟩
/-- sorted(S) -/
theorem set_sorted {a : Addr} {L : Ks} {es : Array (Int × Value)} {ep : Nat} {t : SetTable} {Q : Value → Shared → Prop} (R : SetTR P w s.heap a L es ep t) (hh : A.handled = none) (hu : A.units + 10 < cLine)
    (fin : ∀ (s' : Shared) (p : Addr) (out : List Value) (c : Nat) (L' : Ks), (∀ b o, s.heap.get? b = some o → s'.heap.get? b = some o) → s'.gens = s.gens → s'.os = s.os → s.heap.objs.size ≤ p → s'.heap.get? p = some (seqObj "list" out.toArray c) →
      out = L'.map (fun q => Value.ref q.1) → L'.Perm L → L'.map (·.2) = (L.map (·.2)).mergeSort leR → Q (.ref p) s') : wpAny (model P w) A (call (.builtin "sorted") [.ref a]) Q E s := by
  obtain ⟨o, ho, hex, hd⟩ := R.ob
  have n1 := R.size
  have n2 := R.few
  refine Calls.call_function_entry kind_sorted plain_sorted entry_sorted (args_sorted1 _) ?_
  unfold Builtin.«sorted»
  refine wpAny_bind (m := checkCount "sorted" 1 1 _) (wpAny_pure (wpAny_bind ?_))
  refine collect_set (A := A.in1) hh ⟨o, ho, hex.1, hd⟩ R.fits (by unfold scanBound; omega) R.tab.ris R.led fun s1 vs k1 hz g1 o1 pm => ?_
  have hes : es.toList.map (·.2) = L.map fun q => Value.ref q.1 := by
    rw [R.rows]
    unfold L2.rowsOf
    rw [List.map_map]
    rfl
  rw [hes] at pm
  obtain ⟨L1, q1, rfl⟩ := perm_map_inv pm L rfl
  have n3 : (L1.map fun q => Value.ref q.1).length < 64 := by rw [List.length_map, q1.length_eq]; exact n2
  refine wpAny_bind (wpAny_newList ?_ (by rw [sizeLine_eq]; omega))
  generalize hvs : (L1.map fun q => Value.ref q.1) = vs at n3
  have at0 : (s1.heap.push (seqObj "list" vs.toArray 0)).get? s1.heap.objs.size = some (seqObj "list" vs.toArray 0) := Heap.get?_push_size _ rfl
  have er : EachIs (fun u (b : Addr × List Int) => u = Value.ref b.1) vs L1 := by
    rw [← hvs]
    clear hvs n3 q1 pm
    induction L1 with
    | nil => exact .nil
    | cons p l ih => exact .cons rfl ih
  have mem : ∀ p ∈ L1, IsT P w s.heap p.2 p.1 := fun p hp => R.tup p (q1.mem_iff.mp hp)
  have old : ∀ b u, s.heap.get? b = some u → (sortingHeap (s1.heap.push (seqObj "list" vs.toArray 0)) s1.heap.objs.size vs).get? b = some u := fun b u e =>
    sortingHeap_old (Nat.ne_of_lt (Nat.lt_of_lt_of_le (Heap.lt_size e) hz)) (Heap.get?_push_of_some _ (k1 b u e))
  have ed : EachIs (fun u (b : Addr × List Int) => ∃ as, Reads (sortingHeap (s1.heap.push (seqObj "list" vs.toArray 0)) s1.heap.objs.size vs) u (encK b) as) vs L1 := (each_mem er).mono fun u b ⟨e, hb⟩ => by
    rw [e]
    exact isT_reads (P := P) (w := w) (isT_keep (mem b hb) old)
  have hal : AllAlike (L1.map encK) := fun d hd d' hd' => by
    obtain ⟨p, _, rfl⟩ := List.mem_map.mp hd
    obtain ⟨p', _, rfl⟩ := List.mem_map.mp hd'
    exact alike_rows _ _
  have hS : SortsAt P w A.in1.in1 { s1 with heap := sortingHeap (s1.heap.push (seqObj "list" vs.toArray 0)) s1.heap.objs.size vs } (dataKind (sortingHeap (s1.heap.push (seqObj "list" vs.toArray 0)) s1.heap.objs.size vs) (L1.map encK)) vs :=
    sorts_any (s := { s1 with heap := sortingHeap (s1.heap.push (seqObj "list" vs.toArray 0)) s1.heap.objs.size vs }) (each_map (R := fun v d => ∃ as, Reads (sortingHeap (s1.heap.push (seqObj "list" vs.toArray 0)) s1.heap.objs.size vs) v d as) encK ed) hal (fun d hd z => by
      obtain ⟨p, _, e⟩ := List.mem_map.mp hd
      rw [← e] at z
      cases z) fun d hd => by
      obtain ⟨p, _, rfl⟩ := List.mem_map.mp hd
      have e : (encK p).depth = PyData.depthAll (p.2.map .int) + 1 := by unfold encK encR; rw [PyData.depth]
      rw [e, depth_ints]
      show A.units + 1 + 1 + (0 + 1) < cLine
      omega
  have eo := sortVals_data false er ed hal
  refine wpAny_bind (wpAny_holding (wpAny_call_entry slot_list_sort ⟨_, at0, rfl⟩ entry_list_sort (list_sort_vals at0 hS (by rw [sizeLine_eq]; omega) ⟨_, rfl, ?_⟩) (args_list_sort _)))
  generalize sortVals (dataKind (sortingHeap (s1.heap.push (seqObj "list" vs.toArray 0)) s1.heap.objs.size vs) (L1.map encK)) false vs vs = out at eo
  obtain ⟨c, hc⟩ := sortedHeap_at (vs := vs) (out := out.toArray) at0
  have eout : out = (L1.mergeSort (dataLe false encK)).map fun q => Value.ref q.1 := by
    have go : ∀ {us : List Value} {l : Ks}, EachIs (fun u (b : Addr × List Int) => u = Value.ref b.1) us l → us = l.map fun q => Value.ref q.1 := by
      intro us l h
      induction h with
      | nil => rfl
      | cons a _ ih => rw [List.map_cons, a, ih]
    exact go eo
  have ek : (L1.mergeSort (dataLe false encK)).map (·.2) = (L1.map (·.2)).mergeSort leR := List.map_mergeSort fun _ _ _ _ => rfl
  refine wpAny_pure ⟨_, rfl, fin _ s1.heap.objs.size out c (L1.mergeSort (dataLe false encK)) (fun b u e => ?_) g1 o1 hz hc eout ((List.mergeSort_perm _ _).trans q1) (by rw [ek]; exact sort_unique (q1.map _))⟩
  have q := k1 b u e
  have lt := Heap.lt_size q
  show (sortedHeap (s1.heap.push (seqObj "list" vs.toArray 0)) s1.heap.objs.size vs out.toArray).get? b = some u
  rw [sortedHeap_old (Nat.ne_of_lt lt) (by rw [size_push']; exact Nat.lt_succ_of_lt lt)]
  exact Heap.get?_push_of_some _ q
end
end Pu
/-! ### sorted(set(rows)) as a form -/
namespace Pu
open PySem PySem.Spec PySem.W PyProof.Rows L2
theorem nodup_sub_len {α : Type} : ∀ {l m : List α}, l.Nodup → (∀ x ∈ l, x ∈ m) → l.length ≤ m.length
  | [], _, _, _ => Nat.zero_le _
  | a :: l, m, hn, hs => by
    obtain ⟨h1, h2⟩ := List.nodup_cons.mp hn
    obtain ⟨m1, m2, rfl⟩ := List.append_of_mem (hs a (.head _))
    have q := nodup_sub_len (m := m1 ++ m2) h2 fun x hx => by
      rcases List.mem_append.mp (hs x (.tail _ hx)) with h | h
      · exact List.mem_append_left _ h
      · rcases List.mem_cons.mp h with e | h
        · rw [e] at hx; exact absurd hx h1
        · exact List.mem_append_right _ h
    rw [List.length_cons, List.length_append, List.length_cons]
    rw [List.length_append] at q
    omega
def rSetF (K : PySem.W.Frag) (P : Program) (w : World) : List V → Hp → VK → Prop := fun xs H Q => ∃ (l : Addr) (ks : Ks), xs = [V.ref l] ∧ SqL K H l (ks.map fun p => V.ref p.1) ∧ (∀ p ∈ ks, SqT K H p.1 (p.2.map V.int)) ∧ Few ks ∧
  ∀ (a : Addr) (L : Ks), H a = none → (∀ p ∈ L, p ∈ ks) → (∀ p ∈ ks, p.2 ∈ L.map (·.2)) → (L.map (·.2)).Nodup → Q (.ref a) (upd H a (SetTO P w a L))
def rSortF (K : PySem.W.Frag) (P : Program) (w : World) : List V → Hp → VK → Prop := fun xs H Q => ∃ (a : Addr) (L : Ks), xs = [V.ref a] ∧ H a = some (SetTO P w a L) ∧ (∀ p ∈ L, SqT K H p.1 (p.2.map V.int)) ∧
  ∀ (L' : Ks) (p : Addr), L'.Perm L → L'.map (·.2) = (L.map (·.2)).mergeSort leR → H p = none → Q (.ref p) (upd H p (.lst (L'.map fun q => V.ref q.1)))
section
variable {X : Cx} {W : WX} {C : Nat → List D → Rs D} {a : E} {x : Expr} {pos : Pos}
theorem cr_setF (hc : X.calm = true) (hu : X.A.units + 100 < cLine) : CallR X (.type "set") (rSetF X.K X.prog X.w) := by
  intro pins s σ H xs us Q I r h
  obtain ⟨l, ks, rfl, hl, hk, few, q⟩ := h
  rw [Vals.ref1 r]
  obtain ⟨its, rv, pl, hz⟩ := I.list hl
  have hn : H s.heap.objs.size = none := I.hok.fresh (Nat.le_refl _)
  refine set_call (P := X.prog) (w := X.w) few (I.ok.hd hc) pl.isList (by simpa using refs_of_vals rv) (fun p hp => I.isT (hk p hp)) (by omega) fun h' tk ⟨old, L, es, ep, t, R, g⟩ => ?_
  refine ⟨.ref s.heap.objs.size, upd H s.heap.objs.size (SetTO X.prog X.w s.heap.objs.size L), I.laid (t' := tk) old (Nat.le_refl _) (setTO_new R.t0), rfl, q _ L hn (fun p hp => List.mem_of_mem_take (g.sub p hp)) (fun p hp => g.all p (by rw [List.take_length]; exact hp)) R.nd⟩
theorem cr_sortF (hc : X.calm = true) (hu : X.A.units + 100 < cLine) : CallR X (.builtin "sorted") (rSortF X.K X.prog X.w) := by
  intro pins s σ H xs us Q I r h
  obtain ⟨a, L, rfl, ha, hk, q⟩ := h
  obtain ⟨es, ep, t, R⟩ := SetT0.full (I.hok a _ ha).1 fun p hp => I.isT (hk p hp)
  rw [Vals.ref1 r]
  refine set_sorted R (I.ok.hd hc) (by omega) fun s' p out c L' old g o hp hg hout pm hs => ?_
  have few : L'.length < 64 := by rw [pm.length_eq]; exact R.few
  have hz : (L'.map fun q => V.ref q.1).length ≤ sizeLine := by rw [List.length_map, sizeLine_eq]; omega
  have hn : H p = none := I.hok.fresh hp
  have hv : Vals (L'.map fun q => V.ref q.1) out := by rw [hout]; exact vals_of_refs L'
  have J : L2.Inv X pins σ (upd H p (.lst (L'.map fun q => V.ref q.1))) { s with heap := s'.heap, gens := s'.gens, drawn := s'.drawn, toks := s'.toks } :=
    I.call (ch := []) (Un.laid old hp hn) (I.hok.laid old hp ⟨hz, out, c, hv, hg⟩) (by rw [g]; exact I.bare) (fun _ z => nomatch z)
  have e : s' = { s with heap := s'.heap, gens := s'.gens, drawn := s'.drawn, toks := s'.toks } := by
    obtain ⟨_, _, _, _, _⟩ := s'
    obtain ⟨_, _, _, _, _⟩ := s
    cases o
    rfl
  rw [e]
  exact ⟨.ref p, _, J, rfl, q L' p pm hs hn⟩
theorem rows_ks {K : PySem.W.Frag} {F : Hp} : ∀ {xs : List D} {rs : List (List Int)} {vs : List V}, rowsI xs = some rs → DVs K F vs xs → ∃ ks : Ks, vs = (ks.map fun p => V.ref p.1) ∧ ks.map (·.2) = rs ∧ ∀ p ∈ ks, SqT K F p.1 (p.2.map V.int)
  | [], rs, vs, e, h => by
    cases e
    exact ⟨[], h.unnil, rfl, fun p hp => (by cases hp)⟩
  | .tuple ys :: r, rs, vs, e, h => by
    obtain ⟨v, us, rfl, h1, h2⟩ := h.uncons
    have e : (intsOf ys).bind (fun ns => (rowsI r).map (ns :: ·)) = some rs := e
    obtain ⟨ns, e1, e2⟩ := Option.bind_eq_some_iff.mp e
    obtain ⟨qs, e3, e4⟩ := Option.map_eq_some_iff.mp e2
    obtain ⟨ks, k1, k2, k3⟩ := rows_ks e3 h2
    obtain ⟨b, ws, rfl, t1, t2⟩ := h1.untup
    have hw : ws = ns.map V.int := by
      have go : ∀ {ys : List D} {ws : List V} {ns : List Int}, DVs K F ws ys → intsOf ys = some ns → ws = ns.map V.int := by
        intro ys
        induction ys with
        | nil => intro ws ns h e; cases e; exact h.unnil
        | cons y ys ih =>
          intro ws ns h e
          obtain ⟨v, r, rfl, a1, a2⟩ := h.uncons
          match y, a1, e with
          | .int i, a1, e =>
            obtain ⟨ms, b1, b2⟩ := Option.map_eq_some_iff.mp (show (intsOf ys).map (i :: ·) = some ns from e)
            subst b2
            rw [a1.unint, ih a2 b1]
            rfl
      exact go t2 e1
    refine ⟨(b, ns) :: ks, by rw [List.map_cons, ← k1], by rw [List.map_cons, k2, ← e4], fun p hp => ?_⟩
    rcases List.mem_cons.mp hp with z | hp
    · rw [z]
      show SqT K F b (ns.map V.int)
      rw [← hw]
      exact t1
    · exact k3 p hp
  | .none :: _, _, _, e, _ => by cases e
  | .bool _ :: _, _, _, e, _ => by cases e
  | .int _ :: _, _, _, e, _ => by cases e
  | .str _ :: _, _, _, e, _ => by cases e
  | .list _ :: _, _, _, e, _ => by cases e
  | .dict _ :: _, _, _, e, _ => by cases e
theorem dv_row {K : PySem.W.Frag} {F : Hp} {b : Addr} {ns : List Int} (h : SqT K F b (ns.map V.int)) : DV K F (.ref b) (encR ns) := by
  refine .tup h ?_
  clear h
  induction ns with
  | nil => exact .nil
  | cons n ns ih => exact .cons (.int n) ih
theorem se_sset {p p2 pos2 : Pos} (hc : X.calm = true) (hu : X.A.units + 100 < cLine) (g1 : Gl X "sorted") (m1 : X.mg "sorted" = none) (g2 : Gl X "set") (m2 : X.mg "set" = none) (ha : PE X x (sE X W C a)) (hn : nst x = true) :
    PE X (.Call (.Name "sorted" p) [.Call (.Name "set" p2) [x] [] pos2] [] pos) (sE X W C (.bi .sset [a])) :=
  peImp (pe_callB (cr_sortF hc hu) g1 m1 PyProof.Rows.boot_sorted (pa_cons (pe_callTy (cr_setF hc hu) g2 m2 PyProof.Rows.boot_set (sa_cons ha sa_nil (star_ns hn)) (by decide) (by decide) (star_ns hn) rfl) pa_nil rfl) (by decide) (by decide) rfl rfl) fun σ H Q ⟨F0, B, ρ, F, R, p⟩ => by
    rw [ev] at p
    refine sA_of R p fun ds vs F1 H1 _ R1 st1 dv1 p1 => ?_
    obtain ⟨d, e, q⟩ := p1.ofOk (biNx .sset ds)
    match ds, dv1, e with
    | [.list xs], dv1, e =>
      obtain ⟨v, rfl, dv⟩ := dv1.one
      obtain ⟨l, us, rfl, h1, h2⟩ := dv.unlst
      obtain ⟨rs, e1, e⟩ := bind_inv (show (Rs.ofO (rowsI xs)).bind _ = Rs.ok d from e)
      obtain ⟨few, e⟩ := guard_ok e
      have few := of_decide_eq_true few
      have e := okInj e
      subst e
      obtain ⟨ks, k1, k2, k3⟩ := rows_ks (ofO_inv e1) h2
      subst k1
      have sub := R1.st.sub
      refine ⟨l, ks, rfl, .of (sub _ _ h1), fun p hp => sameT sub (k3 p hp), fun L hL hs => ?_, fun b L hb s1 s2 s3 => ?_⟩
      · have := nodup_sub_len (m := rs.eraseDups) hL fun y hy => by
          obtain ⟨p, hp, rfl⟩ := List.mem_map.mp hy
          rw [List.mem_eraseDups, ← k2]
          exact List.mem_map.mpr ⟨p, hs p hp, rfl⟩
        rw [List.length_map] at this
        omega
      · have stJ := Stp.junk (F := F1) sub hb (SetTO X.prog X.w b L)
        have subJ := stJ.sub
        refine ⟨b, L, rfl, upd_same, fun p hp => sameT subJ (k3 p (s1 p hp)), fun L' p' pm hs hp' => ?_⟩
        have hn' : F1 p' = none := subJ.free hp'
        have pe : (L.map (·.2)).Perm rs.eraseDups := perm_of_nodup s3 (nodup_dups _ rs (Nat.le_refl _)) fun y => by
          rw [List.mem_eraseDups, ← k2]
          constructor
          · intro hy
            obtain ⟨p, hp, rfl⟩ := List.mem_map.mp hy
            exact List.mem_map.mpr ⟨p, s1 p hp, rfl⟩
          · intro hy
            obtain ⟨p, hp, rfl⟩ := List.mem_map.mp hy
            exact s2 p hp
        have dvL : DVs X.K F1 (L'.map fun q => V.ref q.1) (L'.map fun q => encR q.2) := by
          have hm : ∀ q ∈ L', SqT X.K F1 q.1 (q.2.map V.int) := fun q hq => k3 q (s1 q (pm.mem_iff.mp hq))
          clear hs pm
          induction L' with
          | nil => exact .nil
          | cons q L' ih => exact .cons (dv_row (hm q (.head _))) (ih fun r hr => hm r (.tail _ hr))
        have ee : (L'.map fun q => encR q.2) = (rs.eraseDups.mergeSort (dataLe false encR)).map encR := by
          rw [← sort_unique pe, ← hs, List.map_map]
          rfl
        rw [ee] at dvL
        exact q _ _ _ (stJ.trans (Stp.laid subJ hp' _)) (.newLst dvL hn')
end
end Pu
/-! ### a set of nested rows of whole numbers -/
namespace Pu
open PySem PySem.Spec PySem.W PySem.Calls PyProof.Rows L2
section
variable {P : Program} {w : World} {A : Around} {E : Value → Shared → Prop} {s : Shared}
/-- of no class statement -/
def ClsAt (P : Program) (w : World) (n : Nat) (s : Shared) (v : Value) : Prop := ∀ (A : Around) (E : Value → Shared → Prop) (Q : Bool → Shared → Prop), Q false s → wpAny (model P w) A (ofAClassStatement n v) Q E s
/-- hashed by value -/
def HbvAt (P : Program) (w : World) (n : Nat) (s : Shared) (v : Value) : Prop := ∀ (A : Around) (E : Value → Shared → Prop) (Q : Bool → Shared → Prop), Q true s → wpAny (model P w) A (hashByValue n v) Q E s
theorem ClsAt.tuple {n m : Nat} {a : Addr} {o : Obj} {vs : Array Value} (ho : s.heap.get? a = some o) (hc : o.cls = .type "tuple") (hd : o.data = .seq vs m) (hq : ∀ v ∈ vs.toList, ClsAt P w n s v) : ClsAt P w (n + 1) s (.ref a) := fun A E Q h => by
  have hT : s.TypeIs (.ref a) "tuple" := ⟨o, ho, hc⟩
  unfold ofAClassStatement
  refine wpAny_bind (wpAny_typeOf hT ?_)
  dsimp only
  have e : (("tuple" : String) == "tuple") = true := by decide
  simp only [e, if_true, Bool.not_true, Bool.false_eq_true, if_false]
  try refine wpAny_bind (wpAny_pure ?_)
  try simp only [Bool.not_true, Bool.false_eq_true, if_false]
  show wpAny _ _ (seqItems? (.ref a) >>= _) _ _ s
  refine wpAny_bind (wpAny_seqItems ho hd ?_)
  dsimp only
  refine wpAny_bind ?_
  show wpAny _ _ (forIn vs _ _) _ _ s
  rw [← Array.forIn_toList]
  refine wpAny_forIn_list _ (fun rest r s' => r.1 = none ∧ s' = s ∧ ∀ v ∈ rest, ClsAt P w n s v) _ ?_ ?_ _ _ ⟨rfl, rfl, hq⟩
  · rintro v rest r s' ⟨hr, rfl, hall⟩
    refine wpAny_bind (hall v (.head _) _ _ _ ?_)
    simp only [Bool.false_eq_true, if_false]
    exact wpAny_pure ⟨rfl, rfl, fun u hu => hall u (.tail _ hu)⟩
  · rintro ⟨r1, r2⟩ s' ⟨hr, rfl, _⟩
    simp only at hr
    subst hr
    exact wpAny_pure h
theorem HbvAt.tuple {n m : Nat} {a : Addr} {o : Obj} {vs : Array Value} (ho : s.heap.get? a = some o) (hc : o.cls = .type "tuple") (hd : o.data = .seq vs m) (hq : ∀ v ∈ vs.toList, HbvAt P w n s v) : HbvAt P w (n + 1) s (.ref a) := fun A E Q h => by
  have hT : s.TypeIs (.ref a) "tuple" := ⟨o, ho, hc⟩
  unfold hashByValue
  refine wpAny_bind (wpAny_specialOf hT F.slot_tuple_hash.lookup ?_)
  show wpAny _ _ (seqItems? (.ref a) >>= _) _ _ s
  refine wpAny_bind (wpAny_seqItems ho hd ?_)
  refine wpAny_bind ?_
  show wpAny _ _ (forIn vs _ _) _ _ s
  rw [← Array.forIn_toList]
  refine wpAny_forIn_list _ (fun rest r s' => r.1 = none ∧ s' = s ∧ ∀ v ∈ rest, HbvAt P w n s v) _ ?_ ?_ _ _ ⟨rfl, rfl, hq⟩
  · rintro v rest r s' ⟨hr, rfl, hall⟩
    refine wpAny_bind (hall v (.head _) _ _ _ ?_)
    simp only [Bool.not_true, Bool.false_eq_true, if_false]
    exact wpAny_pure ⟨rfl, rfl, fun u hu => hall u (.tail _ hu)⟩
  · rintro ⟨r1, r2⟩ s' ⟨hr, rfl, _⟩
    simp only at hr
    subst hr
    exact wpAny_pure h
theorem of_pureC {n : Nat} {v : Value} (h : ofAClassStatement n v = pure false) : ClsAt P w n s v := fun A E Q q => by rw [h]; exact wpAny_pure q
theorem of_pureH {n : Nat} {v : Value} (h : hashByValue n v = pure true) : HbvAt P w n s v := fun A E Q q => by rw [h]; exact wpAny_pure q
mutual
theorem cls_key : ∀ (k : NestedKey) (v : Value) (n : Nat), NestedIs s.heap k v → k.depth ≤ n → ClsAt P w n s v
  | .none, _, n, x, _ => by cases x; exact of_pureC (by cases n <;> rfl)
  | .num i, _, n, x, _ => by cases x <;> exact of_pureC (by cases n <;> rfl)
  | .text y, _, n, x, _ => by cases x; exact of_pureC (by cases n <;> rfl)
  | .tup ks, _, n, x, hn => by
    cases x with
    | tup hg hc hd hk =>
      simp only [NestedKey.depth] at hn
      cases n with
      | zero => omega
      | succ n => exact .tuple hg hc hd (cls_keys ks _ n hk (by omega))
theorem cls_keys : ∀ (ks : List NestedKey) (vs : List Value) (n : Nat), NestedAll s.heap ks vs → NestedKey.depthAll ks ≤ n → ∀ v ∈ vs, ClsAt P w n s v
  | [], _, n, x, _, v, hv => by cases x; cases hv
  | k :: ks, _, n, x, hn, v, hv => by
    cases x with
    | cons x1 x2 =>
      simp only [NestedKey.depthAll] at hn
      rcases List.mem_cons.mp hv with e | hv
      · rw [e]; exact cls_key k _ n x1 (by omega)
      · exact cls_keys ks _ n x2 (by omega) v hv
end
mutual
theorem hbv_key : ∀ (k : NestedKey) (v : Value) (n : Nat), NestedIs s.heap k v → numK k = true → k.depth ≤ n → HbvAt P w n s v
  | .none, _, n, x, _, _ => by cases x; exact of_pureH (by cases n <;> rfl)
  | .num i, _, n, x, _, _ => by cases x <;> exact of_pureH (by cases n <;> rfl)
  | .text y, _, n, x, hk, _ => by rw [numK] at hk; cases hk
  | .tup ks, _, n, x, hk, hn => by
    cases x with
    | tup hg hc hd hks =>
      simp only [NestedKey.depth] at hn
      rw [numK] at hk
      cases n with
      | zero => omega
      | succ n => exact .tuple hg hc hd (hbv_keys ks _ n hks hk (by omega))
theorem hbv_keys : ∀ (ks : List NestedKey) (vs : List Value) (n : Nat), NestedAll s.heap ks vs → numKs ks = true → NestedKey.depthAll ks ≤ n → ∀ v ∈ vs, HbvAt P w n s v
  | [], _, n, x, _, _, v, hv => by cases x; cases hv
  | k :: ks, _, n, x, hk, hn, v, hv => by
    cases x with
    | cons x1 x2 =>
      simp only [NestedKey.depthAll] at hn
      rw [numKs, Bool.and_eq_true] at hk
      rcases List.mem_cons.mp hv with e | hv
      · rw [e]; exact hbv_key k _ n x1 hk.1 (by omega)
      · exact hbv_keys ks _ n x2 hk.2 (by omega) v hv
end
/-- at b stands the row k -/
structure KIs (h : Heap) (k : NestedKey) (b : Addr) : Prop where
  is : NestedIs h k (.ref b)
  dp : k.depth ≤ 8
  nm : numK k = true
theorem KIs.keep {h h' : Heap} {k : NestedKey} {b : Addr} (x : KIs h k b) (hk : ∀ c o, h.get? c = some o → h'.get? c = some o) : KIs h' k b := ⟨NestedIs.at (fun a o vs n ha _ => hk a o ha) k _ x.is, x.dp, x.nm⟩
theorem KIs.same {h h' : Heap} {k : NestedKey} {a b : Addr} {o : Obj} {es : Array (Int × Value)} {ep : Nat} {t : SetTable} (x : KIs h k b) (ho : h.get? a = some o) (hd : o.data = .set es ep t) (hs : Heap.SameBut a h h') : KIs h' k b :=
  ⟨NestedIs.at (fun c oc vs n hc hcd => (hs.2 c fun e => by
    subst e
    rw [ho] at hc
    cases hc
    rw [hd] at hcd
    cases hcd).trans hc) k _ x.is, x.dp, x.nm⟩
theorem KIs.eqb {x y : NestedKey} {a b : Addr} {Q : Bool → Shared → Prop} (hu : A.units + 8 < cLine) (hx : KIs s.heap x a) (hy : KIs s.heap y b) (h : Q (decide (x = y)) s) : wpAny (model P w) A (eqBool (.ref a) (.ref b)) Q E s :=
  (nestedKind P w).eqBool hu ⟨hx.is, hx.dp⟩ ⟨hy.is, hy.dp⟩ h
/-- a search among rows shows nothing -/
theorem KIs.seen {k : NestedKey} {b : Addr} {ys : List Value} {Q : Bool → Shared → Prop} (hk : KIs s.heap k b) (hy : ∀ y ∈ ys, ∃ k' c, y = Value.ref c ∧ KIs s.heap k' c) (h : Q false s) : wpAny (model P w) A (searchCouldBeSeen (.ref b) ys) Q E s := by
  unfold searchCouldBeSeen
  refine wpAny_bind ?_
  refine wpAny_forIn_list _ (fun rest r s' => r.1 = none ∧ s' = s ∧ ∀ y ∈ rest, ∃ k' c, y = Value.ref c ∧ KIs s.heap k' c) _ ?_ ?_ _ _ ⟨rfl, rfl, hy⟩
  · rintro v rest r s' ⟨hr, rfl, hall⟩
    obtain ⟨k', c, rfl, hc⟩ := hall v (.head _)
    have more : ∀ y ∈ rest, ∃ k' c, y = Value.ref c ∧ KIs s'.heap k' c := fun u hu => hall u (.tail _ hu)
    dsimp only
    by_cases hv : (b == c || (carriedByValue (.ref b) && carriedByValue (.ref c))) = true
    · exact wp_if_pos hv (wpAny_pure ⟨rfl, rfl, more⟩)
    · refine wp_if_neg hv ?_
      refine wpAny_bind (quiet_key k _ 8 s' hk.is hk.dp A E _ ?_)
      simp only [Bool.not_true, Bool.false_eq_true, if_false]
      refine wpAny_bind (quiet_key k' _ 8 s' hc.is hc.dp A E _ ?_)
      simp only [Bool.not_true, Bool.false_eq_true, if_false]
      refine wpAny_bind (cls_key k _ 8 hk.is hk.dp A E _ ?_)
      simp only [Bool.false_eq_true, if_false]
      refine wpAny_bind (cls_key k' _ 8 hc.is hc.dp A E _ ?_)
      simp only [Bool.false_eq_true, if_false]
      exact wpAny_pure ⟨rfl, rfl, more⟩
  · rintro ⟨r1, r2⟩ s' ⟨hr, rfl, _⟩
    simp only at hr
    subst hr
    exact wpAny_pure h
end
abbrev NKs := List (Addr × NestedKey)
def nRows (w : World) (L : NKs) : List (Int × Value) := L.map fun p => (p.2.hash w, Value.ref p.1)
def nHs (w : World) (L : NKs) : List Int := L.map fun p => p.2.hash w
/-- at S stands the set of the rows L -/
structure NSet (w : World) (h : Heap) (S : Addr) (L : NKs) (es : Array (Int × Value)) (ep : Nat) (t : SetTable) : Prop where
  ob : ∃ o, h.get? S = some o ∧ o.ExactSet ∧ o.data = .set es ep t
  rows : es.toList = nRows w L
  tab : TabOk t (nHs w L)
  nd : (L.map (·.2)).Nodup
  tup : ∀ p ∈ L, KIs h p.2 p.1
  plain : t.plain = true
  led : w.params.followText "set-order" = true ∨ t.led = true
  room : L.length * 5 < t.mask * 3
  few : L.length < 64
theorem nRows_len {w : World} {L : NKs} {es : Array (Int × Value)} (h : es.toList = nRows w L) : es.size = L.length := by
  have := congrArg List.length h
  rwa [Array.length_toList, nRows, List.length_map] at this
theorem nRows_at {w : World} {L : NKs} {es : Array (Int × Value)} (h : es.toList = nRows w L) {i : Nat} {p : Addr × NestedKey} (hp : L[i]? = some p) : es[i]? = some (p.2.hash w, Value.ref p.1) := by
  rw [← Array.getElem?_toList, h, nRows, List.getElem?_map, hp]; rfl
theorem nHs_len (w : World) (L : NKs) : (nHs w L).length = L.length := by rw [nHs, List.length_map]
section
variable {P : Program} {w : World} {A : Around} {E : Value → Shared → Prop} {s : Shared} {S : Addr} {L : NKs} {es : Array (Int × Value)} {ep : Nat} {t : SetTable}
theorem NSet.fits (R : NSet w s.heap S L es ep t) : t.fits es.size = true := by
  have h1 := R.tab.sz
  rw [nHs_len] at h1
  have h2 := nRows_len R.rows
  have h3 := R.room
  unfold SetTable.fits SetTable.fill
  rw [R.tab.dm, Bool.and_eq_true, beq_iff_eq, decide_eq_true_eq]
  show t.place.size = es.size ∧ t.place.size + 0 ≤ t.mask
  omega
theorem NSet.gw (R : NSet w s.heap S L es ep t) : ¬ t.gaveWay = true := by
  unfold SetTable.gaveWay
  rw [mask_odd R.tab.mok]
  decide
theorem nth_dummy (m : Nat) : ∀ (n : Nat) (p : SetTable.Probe), p.dummy = none → (nth m p n).dummy = none
  | 0, p, h => h
  | n + 1, p, h => nth_dummy m n (adv m p) (by unfold adv; split <;> exact h)
/-- where the way of a hash stands after c steps -/
abbrev onWay (t : SetTable) (h : Int) (c : Nat) : SetTable.Probe := nth t.mask (runAt t.mask (SetTable.bits h % (t.mask + 1)) (SetTable.bits h)) c
theorem onWay_add (t : SetTable) (h : Int) (c q : Nat) : nth t.mask (onWay t h c) q = onWay t h (c + q) := (nth_add t.mask c _ q).symm
theorem onWay_j (t : SetTable) (h : Int) (c q : Nat) : (nth t.mask (onWay t h c) q).j = way t.mask h (c + q) := congrArg SetTable.Probe.j (onWay_add t h c q)
/-- one of the rows is met on the way: it is asked, and the search ends or goes on -/
theorem n_meet (R : NSet w s.heap S L es ep t) {x : Addr} {k : NestedKey} (hx : KIs s.heap k x) (hu : A.units + 8 < cLine) {f i j : Nat} {next : SetTable.Probe} {p : Addr × NestedKey} {Q : SetFound → Shared → Prop} (hp : L[i]? = some p) (hj : t.place.toList[i]? = some j)
    (hin : p.2 = k → Q (.there none) s) (more : p.2 ≠ k → wpAny (model P w) A (setSearchFrom S (.ref x) (k.hash w) true f (some next)) Q E s) :
    wpAny (model P w) A (searchRest S (.ref x) (k.hash w) true f es t j i next) Q E s := by
  obtain ⟨o, ho, hex, hd⟩ := R.ob
  unfold searchRest
  rw [nRows_at R.rows hp]
  dsimp only
  refine wpAny_bind (wpAny_holding ((R.tup p (List.mem_of_getElem? hp)).eqb hu hx ?_))
  refine wpAny_bind (wpAny_setState_of ho hd R.fits ?_)
  dsimp only
  by_cases hkk : p.2 = k
  · refine wp_if_pos (by simp [hkk]) ?_
    exact wpAny_pure (hin hkk)
  · refine wp_if_neg (by simp [hkk]) ?_
    try refine wpAny_bind (wpAny_pure ?_)
    rw [sameMem]
    dsimp only
    simp only [if_true, slot_live R.tab.ris hj, nRows_at R.rows hp]
    refine wpAny_bind (wpAny_isSame_ref_self (wpAny_bind (wpAny_pure ?_)))
    simp only [if_true]
    refine wp_if_neg (by simp [hkk]) ?_
    exact more hkk
theorem n_from (R : NSet w s.heap S L es ep t) {x : Addr} {k : NestedKey} (hx : KIs s.heap k x) (hu : A.units + 8 < cLine) {N : Nat} (hN : N < 10 * SetTable.turns t.mask) (hfree : way t.mask (k.hash w) N ∉ t.place.toList) (hfull : ∀ c, c < N → way t.mask (k.hash w) c ∈ t.place.toList) {Q : SetFound → Shared → Prop}
    (hin : k ∈ L.map (·.2) → Q (.there none) s) (hout : k ∉ L.map (·.2) → Q (.free (way t.mask (k.hash w) N) false) s) :
    ∀ (f c : Nat) (stand : Option SetTable.Probe), stand.getD (t.probeStart (k.hash w)) = onWay t (k.hash w) c → c ≤ N → N - c < f →
      (∀ (i : Nat) p, L[i]? = some p → p.2 = k → ∃ c', c ≤ c' ∧ c' < N ∧ t.place.toList[i]? = some (way t.mask (k.hash w) c')) →
      wpAny (model P w) A (setSearchFrom S (.ref x) (k.hash w) true f stand) Q E s
  | 0, c, stand, _, _, hf, _ => absurd hf (Nat.not_lt_zero _)
  | f + 1, c, stand, hst, hc, hf, ahead => by
    obtain ⟨o, ho, hex, hd⟩ := R.ob
    rw [setSearchFrom_succ]
    refine wpAny_bind (wpAny_setState_of ho hd R.fits ?_)
    dsimp only
    refine wp_if_neg R.gw ?_
    try refine wpAny_bind (wpAny_pure ?_)
    have at_ : ∀ (i : Nat) (p : Addr × NestedKey), L[i]? = some p → (es[i]?.map (·.1)).getD 0 = p.2.hash w := fun i p hp => by rw [nRows_at R.rows hp]; rfl
    have look := go_spec t R.tab.ris R.tab.dm (fun i => (es[i]?.map (·.1)).getD 0) (k.hash w) (10 * SetTable.turns t.mask) (N - c) (onWay t (k.hash w) c) (nth_dummy _ _ _ rfl) (by omega)
      (fun q hq => by rw [onWay_j]; exact hfull (c + q) (by omega)) (by rw [onWay_j, show c + (N - c) = N by omega]; exact hfree)
    -- a row like this one is not passed
    have passed : ∀ q, (∀ (r i : Nat), r < q → t.place.toList[i]? = some (nth t.mask (onWay t (k.hash w) c) r).j → (es[i]?.map Prod.fst).getD 0 ≠ k.hash w) → ∀ (i : Nat) (p : Addr × NestedKey) (c' : Nat), L[i]? = some p → p.2 = k → c ≤ c' → t.place.toList[i]? = some (way t.mask (k.hash w) c') → c + q ≤ c' := fun q no i p c' hp hk h1 h2 => by
      refine Nat.le_of_not_lt fun h3 => no (c' - c) i (by omega) ?_ ?_
      · rw [onWay_j, show c + (c' - c) = c' by omega]; exact h2
      · rw [at_ i p hp, hk]
    rcases look with ⟨q, i, hq, hi, hh, no, hpr⟩ | ⟨no, hpr⟩
    · rw [onWay_j] at hi
      have hpr' : t.probe (fun i => (es[i]?.map (·.1)).getD 0) (k.hash w) (stand.getD (t.probeStart (k.hash w))) = some (.candidate (way t.mask (k.hash w) (c + q)) i (onWay t (k.hash w) (c + (q + 1)))) := by
        rw [hst, ← onWay_j, ← onWay_add]
        exact hpr
      rw [hpr']
      dsimp only
      have hil : i < L.length := by
        have h1 : i < t.place.toList.length := (List.getElem?_eq_some_iff.mp hi).1
        have h2 := R.tab.sz
        rw [nHs_len] at h2
        rw [Array.length_toList] at h1
        omega
      obtain ⟨p, hp⟩ : ∃ p, L[i]? = some p := ⟨_, List.getElem?_eq_getElem hil⟩
      have rest : wpAny (model P w) A (searchRest S (.ref x) (k.hash w) true f es t (way t.mask (k.hash w) (c + q)) i (onWay t (k.hash w) (c + (q + 1)))) Q E s := by
        refine n_meet R hx hu hp hi (fun e => hin (List.mem_map.mpr ⟨p, List.mem_of_getElem? hp, e⟩)) fun ne => ?_
        refine n_from R hx hu hN hfree hfull hin hout f (c + (q + 1)) _ rfl (by omega) (by omega) fun i0 p0 h0 hk0 => ?_
        obtain ⟨c', a1, a2, a3⟩ := ahead i0 p0 h0 hk0
        have a4 := passed q no i0 p0 c' h0 hk0 a1 a3
        refine ⟨c', ?_, a2, a3⟩
        rcases Nat.eq_or_lt_of_le a4 with e | e
        · exfalso
          rw [← e] at a3
          have b1 := slot_live R.tab.ris a3
          rw [slot_live R.tab.ris hi] at b1
          injection b1 with b1
          rw [← b1, hp] at h0
          exact ne ((congrArg Prod.snd (Option.some.inj h0)).trans hk0)
        · omega
      by_cases hl : t.led = true
      · refine wp_if_neg (by simp [hl]) ?_
        try refine wpAny_bind (wpAny_pure ?_)
        exact rest
      · refine wp_if_pos (by simp [hl]) ?_
        refine wpAny_bind (hx.seen (fun y hy => ?_) ?_)
        · obtain ⟨e, he, ee⟩ := List.mem_map.mp hy
          have he1 : e ∈ es ∧ e.1 = k.hash w := by simpa using he
          have he2 : e ∈ es.toList := by simpa using he1.1
          rw [R.rows] at he2
          obtain ⟨p2, hp2, e2⟩ := List.mem_map.mp he2
          exact ⟨p2.2, p2.1, by rw [← ee, ← e2], R.tup p2 hp2⟩
        · refine wp_if_neg (by decide) ?_
          try refine wpAny_bind (wpAny_pure ?_)
          exact rest
    · have hpr' : t.probe (fun i => (es[i]?.map (·.1)).getD 0) (k.hash w) (stand.getD (t.probeStart (k.hash w))) = some (.empty (way t.mask (k.hash w) N) none) := by
        have e2 : way t.mask (k.hash w) N = (nth t.mask (onWay t (k.hash w) c) (N - c)).j := by rw [onWay_j, show c + (N - c) = N by omega]
        rw [hst, e2]
        exact hpr
      rw [hpr']
      dsimp only
      refine wpAny_pure (hout fun hm => ?_)
      obtain ⟨p0, h0, hk0⟩ := List.mem_map.mp hm
      obtain ⟨i0, hi0⟩ := List.mem_iff_getElem?.mp h0
      obtain ⟨c', a1, a2, a3⟩ := ahead i0 p0 hi0 hk0
      have a4 := passed (N - c) no i0 p0 c' hi0 hk0 a1 a3
      omega
theorem n_search (R : NSet w s.heap S L es ep t) {x : Addr} {k : NestedKey} (hx : KIs s.heap k x) (hu : A.units + 8 < cLine) {Q : SetFound → Shared → Prop}
    (hin : k ∈ L.map (·.2) → Q (.there none) s)
    (hout : ∀ N, k ∉ L.map (·.2) → way t.mask (k.hash w) N ∉ t.place.toList → (∀ c, c < N → way t.mask (k.hash w) c ∈ t.place.toList) → Q (.free (way t.mask (k.hash w) N) false) s) :
    wpAny (model P w) A (setSearch S (.ref x) (k.hash w) true) Q E s := by
  have hroom := R.room
  obtain ⟨N, hN, hfree, hfull⟩ := R.tab.first (by rw [nHs_len]; omega) (k.hash w)
  have hbig : 10 * SetTable.turns t.mask ≤ 1420 := by
    unfold SetTable.turns
    rcases R.tab.mok with e | e | e <;> omega
  unfold setSearch
  refine n_from R hx hu hN hfree hfull hin (fun hn => hout N hn hfree hfull) 100000 0 none rfl (Nat.zero_le _) (by omega) fun i p hp hk => ?_
  have hi : (nHs w L)[i]? = some (k.hash w) := by rw [nHs, List.getElem?_map, hp, ← hk]; rfl
  have hil : i < t.place.toList.length := by
    have h1 : i < L.length := (List.getElem?_eq_some_iff.mp hp).1
    have h2 := R.tab.sz
    rw [nHs_len] at h2
    rw [Array.length_toList]
    omega
  have hj := List.getElem?_eq_getElem hil
  obtain ⟨c, hc, e⟩ := R.tab.before hfree hi hj
  exact ⟨c, Nat.zero_le _, hc, by rw [hj, e]⟩
theorem range_get {α : Type} (l : List α) : ∀ n, n ≤ l.length → (List.range n).filterMap (fun i => l[i]?) = l.take n
  | 0, _ => rfl
  | n + 1, h => by
    rw [List.range_succ, List.filterMap_append, range_get l n (Nat.le_of_lt h), List.take_succ, List.getElem?_eq_getElem h, List.filterMap_cons_some (List.getElem?_eq_getElem h)]
    rfl
theorem fm_congr {α β : Type} {f g : α → Option β} : ∀ {l : List α}, (∀ x ∈ l, f x = g x) → l.filterMap f = l.filterMap g
  | [], _ => rfl
  | x :: l, h => by
    have h0 := h x (.head _)
    have ih := fm_congr (l := l) fun y hy => h y (.tail _ hy)
    rw [List.filterMap_cons, List.filterMap_cons, h0, ih]
/-- the rows in another order -/
theorem n_order {order : Array Nat} (hr : es.toList = nRows w L) (hp : order.toList.Perm (List.range L.length)) :
    ∃ L2 : NKs, (order.filterMap (es[·]?)).toList = nRows w L2 ∧ L2.Perm L ∧ nHs w L2 = order.toList.map fun i => (es.map (·.1)).getD i 0 := by
  have sz := nRows_len hr
  have inb : ∀ i ∈ order.toList, i < L.length := fun i hi => List.mem_range.mp (hp.mem_iff.mp hi)
  refine ⟨order.toList.filterMap fun i => L[i]?, ?_, ?_, ?_⟩
  · rw [Array.toList_filterMap, nRows, List.map_filterMap]
    refine fm_congr fun i hi => ?_
    have hi := inb i hi
    have hL : L[i]? = some L[i] := List.getElem?_eq_getElem hi
    rw [nRows_at hr hL, hL]; rfl
  · have h1 := hp.filterMap fun i => L[i]?
    rw [range_get L L.length (Nat.le_refl _), List.take_length] at h1
    exact h1
  · rw [nHs]
    generalize order.toList = l at inb
    induction l with
    | nil => rfl
    | cons i l ih =>
      have hi := inb i (.head _)
      have hL : L[i]? = some L[i] := List.getElem?_eq_getElem hi
      rw [List.filterMap_cons_some hL, List.map_cons, List.map_cons, ih fun j hj => inb j (.tail _ hj)]
      congr 1
      have e5 : (es.map (·.1))[i]? = some ((L[i]).2.hash w) := by rw [Array.getElem?_map, nRows_at hr hL]; rfl
      simp [Array.getD_eq_getD_getElem?, e5]
theorem n_relay {o : Obj} (ho : s.heap.get? S = some o) (hex : o.ExactSet) (hd : o.data = .set es ep t) (hrows : es.toList = nRows w L) (hsz : t.place.size = es.size) (hdm : t.dummies = #[]) (hfl : es.size ≤ t.mask)
    (nd : (L.map (·.2)).Nodup) (tup : ∀ p ∈ L, KIs s.heap p.2 p.1) (pl : t.plain = true) (ld : w.params.followText "set-order" = true ∨ t.led = true) (few : L.length < 64) {wanted M : Nat}
    (hw : SetTable.sizeAbove wanted - 1 = M) (hM : MaskOk M) (hw2 : SetTable.sizeAbove wanted ≤ 128) (hn : L.length * 5 < M * 3) {Q : Unit → Shared → Prop}
    (hQ : ∀ h' L' es' ep' t', Heap.SameBut S s.heap h' → NSet w h' S L' es' ep' t' → L'.Perm L → Q () { s with heap := h' }) : wpAny (model P w) A (setRelay S wanted) Q E s := by
  have hsl := nRows_len hrows
  have hfits : t.fits es.size = true := by
    unfold SetTable.fits SetTable.fill
    rw [hdm, Bool.and_eq_true, beq_iff_eq, decide_eq_true_eq]
    show t.place.size = es.size ∧ t.place.size + 0 ≤ t.mask
    omega
  obtain ⟨t', order, e, hp, T, em, el, ep', ed⟩ := relaid_ok t (hs := es.map (·.1)) (wanted := wanted) hw hM (by rw [Array.size_map, hsl]; omega)
  rw [Array.size_map, hsl] at hp
  obtain ⟨L2, r1, r2, r3⟩ := n_order hrows hp
  rw [← r3] at T
  have hs2 : (order.filterMap (es[·]?)).size = es.size := by rw [nRows_len r1, hsl, r2.length_eq]
  rw [setRelay_eq]
  refine wpAny_bind (wpAny_setState_of ho hd hfits ?_)
  dsimp only
  refine wp_if_neg (by rw [sizeLine_eq]; omega) ?_
  try refine wpAny_bind (wpAny_pure ?_)
  rw [e]
  dsimp only
  refine wpAny_bind ?_
  refine wp_if_neg (by rw [hs2]; simp) ?_
  try refine wpAny_bind (wpAny_pure ?_)
  refine wpAny_pure ?_
  dsimp only
  refine wpAny_storeSet_of ho hd ?_ (by rw [hs2, hsl, sizeLine_eq]; omega)
  have sb : Heap.SameBut S s.heap (s.heap.update S (Obj.putSet (order.filterMap (es[·]?)) t')) := Heap.SameBut.update ..
  exact hQ _ L2 (order.filterMap (es[·]?)) (ep + 1) t' sb ⟨⟨_, store_at ho hd, ⟨hex.1, hex.2.1, hex.2.2⟩, rfl⟩, r1, T, (r2.map (·.2)).nodup_iff.mpr nd, fun p hpm => (tup p (r2.mem_iff.mp hpm)).same ho hd sb, by rw [ep']; exact pl, by rw [el]; exact ld, by rw [r2.length_eq, em]; exact hn, by rw [r2.length_eq]; exact few⟩ r2
theorem ins_perm {α : Type} (l : List α) (p : Nat) (x : α) : (l.take p ++ x :: l.drop p).Perm (x :: l) := by
  have h : (l.take p ++ x :: l.drop p).Perm (x :: (l.take p ++ l.drop p)) := List.perm_middle
  rwa [List.take_append_drop] at h
theorem ins_map {α β : Type} (f : α → β) (l : List α) (p : Nat) (x : α) : (l.take p ++ x :: l.drop p).map f = (l.map f).take p ++ f x :: (l.map f).drop p := by
  rw [List.map_append, List.map_cons, List.map_take, List.map_drop]
theorem n_add (R : NSet w s.heap S L es ep t) {x : Addr} {k : NestedKey} (hx : KIs s.heap k x) (hu : A.units + 8 < cLine) (hfew : L.length + 1 < 64) {Q : Bool → Shared → Prop}
    (hQ : ∀ b h' L' es' ep' t', Heap.SameBut S s.heap h' → NSet w h' S L' es' ep' t' → (k ∈ L.map (·.2) → L' = L) → (k ∉ L.map (·.2) → L'.Perm ((x, k) :: L)) → Q b { s with heap := h' }) :
    wpAny (model P w) A (setAddHashed S (.ref x) (k.hash w)) Q E s := by
  obtain ⟨o, ho, hex, hd⟩ := R.ob
  have hsl := nRows_len R.rows
  have hroom := R.room
  unfold setAddHashed
  refine wpAny_holding ?_
  rw [show (100000 : Nat) = 99999 + 1 from rfl, setAddHashedIn_succ]
  refine wpAny_bind (wpAny_setState_of ho hd R.fits ?_)
  dsimp only
  refine wp_if_neg (by simp [byScan, Value.scannable]) ?_
  try refine wpAny_bind (wpAny_pure ?_)
  refine wpAny_bind (n_search R hx hu (fun hm => ?_) fun N hm hfree hfull => ?_)
  · dsimp only
    exact wpAny_pure (hQ false s.heap L es ep t (Heap.SameBut.refl S s.heap) R (fun _ => rfl) fun z => absurd hm z)
  · dsimp only
    refine wpAny_bind (wpAny_setState_of ho hd R.fits ?_)
    dsimp only
    obtain ⟨q1, q2, q3, q4, q5, q6, q7, q8, q9⟩ := R.tab.put hfree hfull
    have hp1 : (t.put (way t.mask (k.hash w) N)).1.plain = true := by rw [q6]; exact R.plain
    generalize hpt : t.put (way t.mask (k.hash w) N) = pt at q1 q3 q4 q5 q6 q7 q8 q9 hp1 ⊢
    obtain ⟨t1, p⟩ := pt
    dsimp only at q1 q3 q4 q5 q6 q7 q8 q9 hp1 ⊢
    subst q1
    first
      | (refine wpAny_bind ?_; refine wp_if_pos hp1 ?_; refine hbv_key k _ 8 hx.is hx.nm hx.dp A E _ ?_)
      | refine wp_if_pos hp1 (wpAny_bind (hbv_key k _ 8 hx.is hx.nm hx.dp A E _ ?_))
    simp only [if_true]
    have hin : (SetTable.insertAt es (SetTable.below t.place (way t.mask (k.hash w) N)) (k.hash w, Value.ref x)).toList = nRows w (L.take (SetTable.below t.place (way t.mask (k.hash w) N)) ++ (x, k) :: L.drop (SetTable.below t.place (way t.mask (k.hash w) N))) := by
      rw [SetTable.toList_insertAt, nRows, ins_map, R.rows]; rfl
    generalize hpp : SetTable.below t.place (way t.mask (k.hash w) N) = p at q2 q3 hin ⊢
    have pm := ins_perm L p (x, k)
    have hlen : (L.take p ++ (x, k) :: L.drop p).length = L.length + 1 := pm.length_eq
    have hhs : nHs w (L.take p ++ (x, k) :: L.drop p) = (nHs w L).take p ++ k.hash w :: (nHs w L).drop p := by rw [nHs, ins_map]; rfl
    rw [← hhs] at q3
    have nd1 : ((L.take p ++ (x, k) :: L.drop p).map (·.2)).Nodup := by
      refine (pm.map (·.2)).nodup_iff.mpr ?_
      rw [List.map_cons]
      exact List.nodup_cons.mpr ⟨hm, R.nd⟩
    have hes := nRows_len hin
    rw [hlen] at hes
    generalize SetTable.insertAt es p (k.hash w, Value.ref x) = es1 at hin hes ⊢
    generalize L.take p ++ (x, k) :: L.drop p = L1 at pm hlen q3 nd1 hin
    refine wpAny_bind (wpAny_storeSet_of ho hd ?_ (by rw [hes, sizeLine_eq]; omega))
    have sb : Heap.SameBut S s.heap (s.heap.update S (Obj.putSet es1 t1)) := Heap.SameBut.update ..
    have ho1 := store_at (es' := es1) (t' := t1) ho hd
    generalize s.heap.update S (Obj.putSet es1 t1) = h1 at sb ho1 ⊢
    have tup1 : ∀ p ∈ L1, KIs h1 p.2 p.1 := fun p hp => by
      rcases List.mem_cons.mp (pm.mem_iff.mp hp) with e | hp
      · rw [e]; exact hx.same ho hd sb
      · exact (R.tup p hp).same ho hd sb
    have ld1 : w.params.followText "set-order" = true ∨ t1.led = true := by rw [q5]; exact R.led
    rw [nHs_len] at q9
    by_cases hf : t1.tooFull = true
    · first
        | (refine wpAny_bind ?_; refine wp_if_pos (by simp [hf]) ?_)
        | (refine wp_if_pos (by simp [hf]) ?_; refine wpAny_bind ?_)
      have hfull1 : (L.length + 1) * 5 ≥ t1.mask * 3 := by
        have h := hf
        unfold SetTable.tooFull at h
        rw [decide_eq_true_eq, q9] at h
        exact h
      rw [hsl]
      have hsz1 : t1.place.size = es1.size := by
        have h := q3.sz
        rw [nHs_len, hlen] at h
        rw [h, hes]
      have two : (t.mask = 7 ∧ L.length = 4) ∨ (t.mask = 31 ∧ L.length = 18) := by
        rcases R.tab.mok with e | e | e
        · left; rw [q4, e] at hfull1; rw [e] at hroom; exact ⟨e, by omega⟩
        · right; rw [q4, e] at hfull1; rw [e] at hroom; exact ⟨e, by omega⟩
        · exfalso; rw [q4, e] at hfull1; omega
      have go : ∀ M, SetTable.sizeAbove (SetTable.grown (L.length + 1)) - 1 = M → MaskOk M → SetTable.sizeAbove (SetTable.grown (L.length + 1)) ≤ 128 → (L.length + 1) * 5 < M * 3 →
          wpAny (model P w) A (setRelay S (SetTable.grown (L.length + 1))) (fun _ s' => wpAny (model P w) A (pure true) Q E s') E { s with heap := h1 } := fun M h1' h2' h3' h4' => by
        refine n_relay (s := { s with heap := h1 }) ho1 ⟨hex.1, hex.2.1, hex.2.2⟩ rfl hin hsz1 q3.dm (by rw [hes, q4]; rcases two with ⟨e, e2⟩ | ⟨e, e2⟩ <;> omega) nd1 tup1 hp1 ld1 (by rw [hlen]; exact hfew) h1' h2' h3' (by rw [hlen]; exact h4') ?_
        intro h2 L2 es2 ep2 t2 sb2 R2 pm2
        exact wpAny_pure (hQ true h2 L2 es2 ep2 t2 (sb.trans sb2) R2 (fun z => absurd z hm) fun _ => pm2.trans pm)
      rcases two with ⟨_, e2⟩ | ⟨_, e2⟩
      · exact go 31 (by rw [e2, size_20]) (.inr (.inl rfl)) (by rw [e2, size_20]; decide) (by omega)
      · exact go 127 (by rw [e2, size_76]) (.inr (.inr rfl)) (by rw [e2, size_76]; decide) (by omega)
    · first
        | refine wp_if_neg (by simp [hf]) ?_
        | (refine wpAny_bind ?_; refine wp_if_neg (by simp [hf]) ?_; refine wpAny_pure ?_)
      refine wpAny_pure (hQ true h1 L1 es1 (ep + 1) t1 sb ⟨⟨_, ho1, ⟨hex.1, hex.2.1, hex.2.2⟩, rfl⟩, hin, q3, nd1, tup1, hp1, ld1, ?_, by rw [hlen]; exact hfew⟩ (fun z => absurd z hm) fun _ => pm)
      have h := hf
      unfold SetTable.tooFull at h
      rw [decide_eq_true_eq, q9] at h
      rw [hlen]
      omega
end
end Pu
/-! ### len(set(nested rows)) -/
namespace Pu
open PySem PySem.Spec PySem.W PySem.Calls PyProof.Rows L2
/-- what the set has of the first i rows -/
structure NGot (ks : NKs) (i : Nat) (L : NKs) : Prop where
  sub : ∀ p ∈ L, p ∈ ks.take i
  all : ∀ p ∈ ks.take i, p.2 ∈ L.map (·.2)
theorem NGot.zero (ks : NKs) : NGot ks 0 [] := ⟨fun p h => (nomatch h), fun p h => (by simp at h)⟩
theorem NGot.same {ks L : NKs} {i : Nat} {x : Addr × NestedKey} (g : NGot ks i L) (h : ks[i]? = some x) (hm : x.2 ∈ L.map (·.2)) : NGot ks (i + 1) L := by
  have e : ks.take (i + 1) = ks.take i ++ [x] := by rw [List.take_succ, h]; rfl
  refine ⟨fun p hp => by rw [e]; exact List.mem_append_left _ (g.sub p hp), fun p hp => ?_⟩
  rw [e, List.mem_append, List.mem_singleton] at hp
  rcases hp with z | rfl
  · exact g.all p z
  · exact hm
theorem NGot.more {ks L L' : NKs} {i : Nat} {x : Addr × NestedKey} (g : NGot ks i L) (h : ks[i]? = some x) (pm : L'.Perm (x :: L)) : NGot ks (i + 1) L' := by
  have e : ks.take (i + 1) = ks.take i ++ [x] := by rw [List.take_succ, h]; rfl
  refine ⟨fun p hp => ?_, fun p hp => ?_⟩
  · rw [e, List.mem_append, List.mem_singleton]
    rcases List.mem_cons.mp (pm.mem_iff.mp hp) with z | z
    · exact .inr z
    · exact .inl (g.sub p z)
  · rw [(pm.map (·.2)).mem_iff, List.map_cons]
    rw [e, List.mem_append, List.mem_singleton] at hp
    rcases hp with z | rfl
    · exact .tail _ (g.all p z)
    · exact .head _
theorem NSet.keep {w : World} {h h' : Heap} {S : Addr} {L : NKs} {es : Array (Int × Value)} {ep : Nat} {t : SetTable} (R : NSet w h S L es ep t) (ha : ∀ o, h.get? S = some o → h'.get? S = some o) (ht : ∀ p ∈ L, KIs h' p.2 p.1) : NSet w h' S L es ep t := by
  obtain ⟨o, ho, r⟩ := R.ob
  exact ⟨⟨o, ha o ho, r⟩, R.rows, R.tab, R.nd, ht, R.plain, R.led, R.room, R.few⟩
theorem nset_fresh {w : World} {h : Heap} {S : Addr} (ho : h.get? S = some { cls := .type "set", dict := none, data := .set #[] 0 (.fresh 0 0 (!w.params.followText "set-order")) }) : NSet w h S [] #[] 0 (.fresh 0 0 (!w.params.followText "set-order")) where
  ob := ⟨_, ho, ⟨rfl, rfl, rfl⟩, rfl⟩
  rows := rfl
  tab := ⟨List.Pairwise.nil, rfl, rfl, .inl rfl, fun x hx => (nomatch hx), fun i h j hi => (by simp [nHs] at hi)⟩
  nd := List.nodup_nil
  tup := fun p hp => nomatch hp
  plain := rfl
  led := by
    show _ ∨ (!w.params.followText "set-order") = true
    cases w.params.followText "set-order"
    · exact .inr rfl
    · exact .inl rfl
  room := by show 0 * 5 < 7 * 3; decide
  few := by show 0 < 64; decide
section
variable {P : Program} {w : World} {A : Around} {E : Value → Shared → Prop}
/-- few different ones -/
def NFew (ks : NKs) : Prop := ∀ L : NKs, (L.map (·.2)).Nodup → (∀ p ∈ L, p ∈ ks) → L.length ≤ 62
/-- one item more -/
theorem n_more {s : Shared} {S : Addr} {ks L : NKs} {es : Array (Int × Value)} {ep i : Nat} {t : SetTable} {p : Addr × NestedKey} {Q : Bool → Shared → Prop} (few : NFew ks) (R : NSet w s.heap S L es ep t) (g : NGot ks i L) (hp : ks[i]? = some p) (hx : KIs s.heap p.2 p.1) (hu : A.units + 8 < cLine)
    (h : ∀ (b : Bool) (h' : Heap) (tk : Nat) L' es' ep' t', s.toks ≤ tk → Heap.SameBut S s.heap h' → NSet w h' S L' es' ep' t' → NGot ks (i + 1) L' → Q b { s with heap := h', toks := tk }) :
    wpAny (model P w) A (setAdd S (.ref p.1)) Q E s := by
  have n62 := few L R.nd fun q hq => List.mem_of_mem_take (g.sub q hq)
  unfold setAdd
  refine wpAny_holding (wpAny_bind (pyHash_key p.2 _ A s _ hx.is (by have := hx.dp; omega) ?_))
  refine n_add (s := { s with toks := s.toks + p.2.draws }) R hx hu (by omega) fun b h' L' es' ep' t' same R' c1 c2 => ?_
  refine h b h' _ L' es' ep' t' (Nat.le_add_right _ _) same R' ?_
  by_cases c : p.2 ∈ L.map (·.2)
  · rw [c1 c]
    exact g.same hp c
  · exact g.more hp (c2 c)
/-- the state in the loop of set.update: the old objects stand, the set has what the first i items are -/
structure NMid (w : World) (base : Heap) (S : Addr) (ks : NKs) (i : Nat) (h : Heap) : Prop where
  old : ∀ b o, base.get? b = some o → h.get? b = some o
  ex : ∃ L es ep t, NSet w h S L es ep t ∧ NGot ks i L
theorem n_fill {I : Addr} {fp wr : List Addr} {G : Array GenState → Array GenState → Prop} {n : Nat} {Pv : Nat → Value → Prop} {St : Nat → Shared → Prop} {R : Result → Shared → Prop} (W : WalksS P w A.in1 I fp wr G n Pv St) {S : Addr} (out : S ∉ fp) {ks : NKs} (len : n = ks.length) (few : NFew ks)
    (item : ∀ i v, Pv i v → ∃ p, ks[i]? = some p ∧ v = .ref p.1) {base : Heap} (rows : ∀ p ∈ ks, KIs base p.2 p.1) (bS : base.get? S = none) (bw : ∀ b ∈ wr, base.get? b = none) (hu : A.in1.units + 8 < cLine) :
    ∀ (k i : Nat) (s : Shared), n - i = k → i ≤ n → St i s → NMid w base S ks i s.heap → (∀ s', Moved (S :: wr) G s s' → NMid w base S ks n s'.heap → R (.ok (.ret .none)) s') →
      codeAny (model P w) A (.builtin "set.update.loop" ⟨[.ref S, .ref I], []⟩) R s := by
  have notw : S ∉ wr := fun z => out (W.sub _ z)
  have wider : ∀ b ∈ wr, b ∈ S :: wr := fun b z => .tail _ z
  -- a step of the walk keeps all that
  have step : ∀ {i : Nat} {s s' : Shared}, Moved wr G s s' → NMid w base S ks i s.heap → NMid w base S ks i s'.heap := fun {i s s'} m ⟨k1, L, es, ep, t, r, g⟩ => by
    have k2 : ∀ b o, base.get? b = some o → s'.heap.get? b = some o := fun b o e => m.heap b o (fun z => by rw [bw b z] at e; cases e) (k1 b o e)
    exact ⟨k2, L, es, ep, t, r.keep (fun o e => m.heap S o notw e) fun q hq => (rows q (List.mem_of_mem_take (g.sub q hq))).keep k2, g⟩
  intro k
  induction k with
  | zero =>
    intro i s hk hi st m fin
    have e : i = n := by omega
    subst e
    refine codeAny_builtin F.entry_set_update_loop ?_
    rw [Around.under_plainId F.plain_set_update_loop]
    refine wpAny_bind (W.done s _ _ st fun s' mv => ?_)
    exact wpAny_pure (fin s' (mv.mono wider) (step mv m))
  | succ k ih =>
    intro i s hk hi st m fin
    have lt : i < n := by omega
    refine codeAny_builtin F.entry_set_update_loop ?_
    rw [Around.under_plainId F.plain_set_update_loop]
    refine wpAny_bind (W.item i s _ _ lt st fun v s' pv st' mv => ?_)
    obtain ⟨p, hp, rfl⟩ := item i v pv
    obtain ⟨k1, L, es, ep, t, r, g⟩ := step mv m
    refine wpAny_bind (wpAny_holding (n_more few r g hp ((rows p (List.mem_of_getElem? hp)).keep k1) hu fun b h' tk L' es' ep' t' le same r' g' => ?_))
    have k3 : ∀ b o, base.get? b = some o → h'.get? b = some o := fun b o e => (same.2 b (fun z => by rw [z, bS] at e; cases e)).trans (k1 b o e)
    refine wpAny_pure ⟨plainId_quiet F.plain_set_update_loop _, ih (i + 1) _ (by omega) lt (W.frame _ s' _ _ st' le fun b hb o e => ?_) ⟨k3, L', es', ep', t', r', g'⟩ fun s2 mv2 m2 => ?_⟩
    · rw [same.2 b (fun z => out (by rw [← z]; exact hb))]
      exact e
    · refine fin s2 (Moved.trans W.gtrans ((mv.mono wider).then_heap le fun b o hb e => ?_) mv2) m2
      rw [same.2 b (fun z => hb (by rw [z]; exact .head _))]
      exact e

abbrev nset0 (w : World) : Obj := { cls := .type "set", dict := none, data := .set #[] 0 (.fresh 0 0 (!w.params.followText "set-order")) }
set_option maxHeartbeats 3200000 in
/-- set(xs) -/
theorem n_call {s : Shared} {l : Addr} {its : Array Value} {ks : NKs} {Q : Value → Shared → Prop} (few : NFew ks) (quiet : A.handled = none) (hl : s.heap.IsList l its) (hit : its.toList = ks.map fun p => Value.ref p.1) (rows : ∀ p ∈ ks, KIs s.heap p.2 p.1) (hu : A.units + 11 < cLine)
    (fin : ∀ (h' : Heap) (tk : Nat), NMid w s.heap s.heap.objs.size ks ks.length h' → Q (.ref s.heap.objs.size) { s with heap := h', toks := tk }) : wpAny (model P w) A (call (.type "set") [.ref l]) Q E s := by
  have size : its.size = ks.length := by
    rw [← Array.length_toList, hit, List.length_map]
  obtain ⟨c, tl, mro⟩ := F.called_set.mro
  have made := F.called_set.made
  have sub := F.called_set.sub
  refine wpAny_call (codeAny_of_tree ?_)
  show wpAny _ _ (callAny (.type "set") _) _ _ _
  refine wpAny_pure ⟨Code.quiet_builtin _ (by decide +kernel), codeAny_builtin F.entry_type_call ?_⟩
  rw [Around.under_plain (weight_type_call_type "set" [.ref l] []) rfl]
  have p1 := F.called_set.notType
  have p2 := F.called_set.canCreate
  have p3 := F.typeCall_set_1 (.ref l)
  repeat (any_goals (first | assumption | wp_step))
  refine codeAny_mono (code_set_led1 (.ref l) (E := E) (Q₁ := fun o s₁ => o = .ref s.heap.objs.size ∧ s₁ = { s with heap := s.heap.push (nset0 w) }) ⟨rfl, rfl⟩) fun r s₁ hr => ?_
  cases r with
  | error e => exact hr
  | ok f1 => cases f1 with
    | ret o =>
      obtain ⟨rfl, rfl⟩ := hr
      have at0 : (s.heap.push (nset0 w)).get? s.heap.objs.size = some (nset0 w) := Heap.get?_push_size _ rfl
      have ty : Shared.TypeIs { s with heap := s.heap.push (nset0 w) } (.ref s.heap.objs.size) "set" := ⟨_, at0, rfl⟩
      have i1 := F.called_set.init.lookup
      have i2 := F.called_set.init.bind (.ref s.heap.objs.size)
      repeat (any_goals (first | assumption | wp_step))
      refine codeAny_mono (codeAny_call_builtin (R := wants (fun r s₂ => r = .none ∧ ∃ h' tk, s₂ = { s with heap := h', toks := tk } ∧ NMid w s.heap s.heap.objs.size ks ks.length h') E) F.called_set.init.plain F.entry_set_init (check_set_init_1 ty ?_)) fun r₂ s₂ hr₂ => ?_
      · obtain ⟨⟨cl, di, da, slo⟩, ol, c1, nl, c2⟩ := hl
        have c1 : cl = .type "list" := c1
        have c2 : da = .seq its nl := c2
        subst c1 c2
        have o1 : (s.heap.push (nset0 w)).get? l = some { cls := .type "list", dict := di, data := .seq its nl, slots := slo } := Heap.get?_push_of_some _ ol
        have b1 := F.sub_list_set
        have b2 := F.sub_list_frozenset
        have b3 : (Value.type "list" == Value.type "dict") = false := by decide
        have l1 : (s.heap.push (nset0 w)).IsList l its := ⟨_, o1, rfl, nl, rfl⟩
        unfold Builtin.«set.__init__» noKeywords Builtin.Frozenset.updateFrom
        generalize itE : pyIter = it
        wp_walk
        subst itE
        refine wpAny_pyIter_list l1 (wpAny_bind (wpAny_runValue ?_))
        have lt : l < s.heap.objs.size := Heap.lt_size ol
        have q3 : A.in1.in1.in1.handled = none := by simp [quiet]
        have ne : l ≠ (s.heap.push (nset0 w)).objs.size := by
          rw [Heap.size_push]
          exact Nat.ne_of_lt (Nat.lt_succ_of_lt lt)
        have away : s.heap.objs.size ∉ [(s.heap.push (nset0 w)).objs.size, l] := by
          rw [Heap.size_push]
          intro z
          rcases List.mem_cons.mp z with z | z
          · exact absurd z (Nat.ne_of_lt (Nat.lt_succ_self _))
          · exact absurd (List.mem_singleton.mp z) (Nat.ne_of_gt lt)
        have item : ∀ (i : Nat) (v : Value), its[i]? = some v → ∃ p, ks[i]? = some p ∧ v = .ref p.1 := fun i v hv => by
          rw [← Array.getElem?_toList, hit, List.getElem?_map] at hv
          obtain ⟨p, a1, a2⟩ := Option.map_eq_some_iff.mp hv
          exact ⟨p, a1, a2.symm⟩
        have new : ∀ b, s.heap.objs.size ≤ b → s.heap.get? b = none := fun b hb => by
          cases q : s.heap.get? b with
          | none => rfl
          | some o => exact absurd (Heap.lt_size q) (Nat.not_lt.mpr hb)
        have w0 : ((s.heap.push (nset0 w)).push { cls := .type "list_iterator", data := .fields #[.ref l, .int 0 0] }).get? s.heap.objs.size = some (nset0 w) := Heap.get?_push_of_some _ at0
        refine n_fill ((Walks.list q3 _ l ne its).toS) away size few item rows (new _ (Nat.le_refl _)) (fun b hb => new b ?_) hu (its.size - 0) 0 _ (by omega) (Nat.zero_le _) ⟨⟨_, Heap.get?_push_size _ rfl, rfl, rfl⟩, l1.push _⟩
          ⟨fun b o e => Heap.get?_push_of_some _ (Heap.get?_push_of_some _ e), [], #[], 0, _, nset_fresh w0, NGot.zero ks⟩ ?_
        · rw [List.mem_singleton.mp hb, Heap.size_push]
          exact Nat.le_succ _
        · intro s' mv m
          obtain ⟨h', g2, d2, tk2, os2⟩ := s'
          have x1 : g2 = s.gens := mv.gens
          have x2 : d2 = s.drawn := mv.drawn
          have x3 : os2 = s.os := mv.os
          subst x1 x2 x3
          refine wpAny_pure (wpAny_pure ⟨rfl, h', tk2, rfl, ?_⟩)
          rw [size] at m
          exact m
      · cases r₂ with
        | error e => exact hr₂
        | ok f2 => cases f2 with
          | ret r =>
            obtain ⟨rfl, h', tk, rfl, m⟩ := hr₂
            repeat (any_goals (first | assumption | wp_step))
            exact fin h' tk m
          | _ => exact hr₂.elim
    | _ => exact hr.elim
end
section
variable {X : Cx} {W : WX} {C : Nat → List D → Rs D} {a : E} {x : Expr} {pos : Pos}
theorem krows_ks {pins : List (Addr × Obj)} {σ : L2.St} {F H : Hp} {s : Shared} (I : L2.Inv X pins σ H s) (sF : Same F H) : ∀ (ds : List D) (vs : List V) (us : List Value) (ks : List NestedKey), DVs X.K F vs ds → Vals vs us → krows ds = some ks →
    ∃ L : NKs, us = (L.map fun p => Value.ref p.1) ∧ L.map (·.2) = ks ∧ ∀ p ∈ L, KIs s.heap p.2 p.1
  | [], vs, us, ks, h, r, e => by
    rw [h.unnil] at r
    cases r
    cases (Option.some.inj e)
    exact ⟨[], rfl, rfl, fun _ z => nomatch z⟩
  | d :: ds, vs, us, ks, h, r, e => by
    obtain ⟨v, vr, rfl, h1, h2⟩ := h.uncons
    cases r with
    | cons r1 r2 =>
      have e : (keyD d).bind (fun k => if numK k then (krows ds).map (k :: ·) else none) = some ks := e
      obtain ⟨k, e1, e⟩ := Option.bind_eq_some_iff.mp e
      split at e
      · rename_i hnum
        obtain ⟨ks', e2, e3⟩ := Option.map_eq_some_iff.mp e
        subst e3
        obtain ⟨L, g1, g2, g3⟩ := krows_ks I sF ds vr _ ks' h2 r2 e2
        obtain ⟨f1, f2, zs, rfl⟩ := keyD_inv e1
        obtain ⟨b, ws, rfl, _, _⟩ := h1.untup
        obtain rfl : _ = Value.ref b := r1
        refine ⟨(b, k) :: L, by rw [g1]; rfl, by rw [List.map_cons, g2], fun p hp => ?_⟩
        rcases List.mem_cons.mp hp with z | hp
        · rw [z]
          exact ⟨nest_of I sF _ _ _ k h1.dp rfl f1, f2, hnum⟩
        · exact g3 p hp
      · cases e
def tLset (X : Cx) (te : TE) : TE := fun σ H Q => te σ H fun v H1 => ∃ (F : Hp) (l : Addr) (ds : List D) (ks : List NestedKey), v = .ref l ∧ Same F H1 ∧ DV X.K F v (.list ds) ∧ krows ds = some ks ∧ ks.eraseDups.length ≤ 62 ∧ Q (.int ks.eraseDups.length) H1
theorem pe_lset {te : TE} {p p2 q pos : Pos} (hu : X.A.units + 100 < cLine) (hc : X.calm = true) (hg : Gl X "len") (hm : X.mg "len" = none) (hg2 : Gl X "set") (hm2 : X.mg "set" = none) (he : PE X x te)
    (na : starEach [x] X.env = (false, eval x X.env) :: starEach [] X.env) : PE X (.Call (.Name "len" p) [.Call (.Name "set" p2) [x] [] q] [] pos) (tLset X te) := by
  refine ⟨fun pins s σ H Q I h => ?_⟩
  refine Call_ (ld_blt I hg hm PySem.boot_len ?_)
  refine PyProof.Rows.callWith_builtin1 (PyProof.Rows.args_cons ?_ rfl) rfl rfl
  refine Call_ (ld_blt I hg2 hm2 PyProof.Rows.boot_set ?_)
  refine PyProof.Rows.callWith_type1 (PyProof.Rows.args_cons (thn (he.run pins s σ H _ I h) fun v s1 ⟨x, H1, I1, r1, q1⟩ => PyProof.Rows.args_nil ?_) na) na rfl
  obtain ⟨F, l, ds, ks, rfl, sF, dv, e, few, q1⟩ := q1
  cases r1
  obtain ⟨l', vs, el, h1, h2⟩ := dv.unlst
  cases el
  obtain ⟨its, rv, pl, hz⟩ := I1.list (.of (sF _ _ h1))
  obtain ⟨L, g1, g2, g3⟩ := krows_ks I1 sF ds vs its ks h2 rv e
  have nfew : NFew L := fun M hM hs => by
    have := nodup_sub_len (m := ks.eraseDups) hM fun y hy => by
      obtain ⟨p, hp, rfl⟩ := List.mem_map.mp hy
      rw [List.mem_eraseDups, ← g2]
      exact List.mem_map.mpr ⟨p, hs p hp, rfl⟩
    rw [List.length_map] at this
    omega
  refine n_call (P := X.prog) (w := X.w) nfew (I1.ok.hd hc) pl.isList (by simpa using g1) g3 (by omega) fun h' tk ⟨old, M, es, ep, t, R, g⟩ => ?_
  refine PyProof.Rows.args_nil ?_
  obtain ⟨o, ho, hex, hd⟩ := R.ob
  have hn : es.size = ks.eraseDups.length := by
    have pe : (M.map (·.2)).Perm ks.eraseDups := perm_of_nodup R.nd (nodup_dups _ ks (Nat.le_refl _)) fun y => by
      rw [List.mem_eraseDups, ← g2]
      constructor
      · intro hy
        obtain ⟨p, hp, rfl⟩ := List.mem_map.mp hy
        exact List.mem_map.mpr ⟨p, List.mem_of_mem_take (g.sub p hp), rfl⟩
      · intro hy
        obtain ⟨p, hp, rfl⟩ := List.mem_map.mp hy
        exact g.all p (by rw [List.take_length]; exact hp)
    have := pe.length_eq
    rw [List.length_map] at this
    rw [nRows_len R.rows, this]
  have I2 : L2.Inv X pins σ H1 { s1 with heap := h', toks := tk } := I1.kept fun b o e => old b o e
  refine call_len_set ho hex hd (NSet.fits (s := { s1 with heap := h', toks := tk }) R) (by rw [hn]; omega) ⟨.int ks.eraseDups.length, H1, I2.tok _, ⟨_, by rw [hn]⟩, q1⟩
theorem se_lset {p p2 q pos : Pos} (hc : X.calm = true) (hu : X.A.units + 100 < cLine) (g1 : Gl X "len") (m1 : X.mg "len" = none) (g2 : Gl X "set") (m2 : X.mg "set" = none) (ha : PE X x (sE X W C a)) (hn : nst x = true) :
    PE X (.Call (.Name "len" p) [.Call (.Name "set" p2) [x] [] q] [] pos) (sE X W C (.bi .lset [a])) :=
  peImp (pe_lset hu hc g1 m1 g2 m2 ha (star_ns hn)) fun σ H Q ⟨F0, B, ρ, F, R, p⟩ => by
    have e : ev C (.bi .lset [a]) ρ = (ev C a ρ).bind fun d => biD .lset [d] := by
      rw [ev, evs]
      cases ev C a ρ <;> rfl
    rw [e] at p
    refine sE_of R p fun d v F1 H1 _ R1 st1 dv1 p1 => ?_
    obtain ⟨y, e, q⟩ := p1.ofOk (biNx .lset [d])
    match d, dv1, e with
    | .list xs, dv1, e =>
      obtain ⟨ks, e1, e⟩ := bind_inv (show (Rs.ofO (krows xs)).bind _ = Rs.ok y from e)
      obtain ⟨few, e⟩ := guard_ok e
      have few := of_decide_eq_true few
      have e := okInj e
      subst e
      obtain ⟨l, us, rfl, h1, h2⟩ := dv1.unlst
      exact ⟨F1, l, xs, ks, rfl, R1.st.sub, dv1, ofO_inv e1, few, q _ _ _ (Stp.refl R1.st.sub) (.int _)⟩
end
end Pu
/-! ### does a mini tree match a text? -/
namespace Pu
open PySem PySem.Spec PyProof.Rows L2

structure Tab where
  bl : List Str
  fns : List (Nat × Str)
  ios : List (Nat × Str)
  gls : List (Str × D)
  exs : List Str
  cel : Option Str
  dks : List (Nat × (Str × Nat)) := []
  tre : Option Str := none
  wrd : Option Str := none
def visB (sc : Scope) (x : Str) : Bool := match sc.names.lookup x with
  | some .local => true
  | some .cell => true
  | some .free => true
  | _ => false
def glB (sc : Scope) (x : Str) : Bool := match sc.names.lookup x with
  | some .globalImplicit => true
  | _ => false
def isLoc (sc : Scope) (x : Str) : Bool := match sc.names.lookup x with
  | some .local => true
  | _ => false
def cellB (s : Scope) (x : Str) : Bool := match s.names.lookup x with
  | some .cell => true
  | _ => false
def locB (fs : Option Scope) (sc : Scope) (x : Str) : Bool := match sc.names.lookup x with
  | some .local => true
  | some .cell => (match fs with | none => true | some s => cellB s x)
  | _ => false
def nmB (x : Str) : Bool := !(x == ("__debug__" : Str)) && !(x == ("__classdict__" : Str)) && !(x == ("__name__" : Str))
def nthB (N : List Str) (i : Nat) (x : Str) : Bool := match N[i]? with
  | some y => y == x
  | none => false
def nSet : Expr → Bool
  | .Set _ _ _ => false
  | _ => true
def nSl : Expr → Bool
  | .Slice _ _ _ _ => false
  | _ => true
def nCp : Expr → Bool
  | .ListComp _ _ _ _ => false
  | .SetComp _ _ _ _ => false
  | .DictComp _ _ _ _ _ => false
  | _ => true
def isTup : Expr → Bool
  | .Tuple _ _ _ => true
  | _ => false
/-- a test by its value -/
def plT : Expr → Bool
  | .UnaryOp _ _ _ => false
  | .BoolOp _ _ _ => false
  | .IfExp _ _ _ _ => false
  | .Compare _ _ _ _ => false
  | _ => true
def bis (T : Tab) (sc : Scope) (x : Str) : Bool := glB sc x && nmB x && T.bl.contains x
def biN : Bi → Option (Str × Bool × String)
  | .len => some ("len", false, "len")
  | .all => some ("all", false, "all")
  | .any => some ("any", false, "any")
  | .sum => some ("sum", false, "sum")
  | .tuple => some ("tuple", true, "tuple")
  | .list => some ("list", true, "list")
  | .min2 => some ("min", false, "min")
  | .intb => some ("int", true, "int")
  | .sorted => some ("sorted", false, "sorted")
  | _ => none
def tyS : Ty → Str
  | .tuple => "tuple"
  | .str => "str"
  | .int => "int"
  | .bool => "bool"
def cstB : D → Const → Bool
  | .none, .none => true
  | .bool b, .bool c => b == c
  | .int i, .int j => decide (i = j)
  | .str s, .str t => s == t && PyData.strOk s
  | _, _ => false
def sameD : Nat → D → D → Bool
  | 0, _, _ => false
  | n + 1, a, b => match a, b with
    | .none, .none => true
    | .bool b, .bool c => b == c
    | .int i, .int j => decide (i = j)
    | .str s, .str t => s == t
    | .tuple xs, .tuple ys => decide (xs.length = ys.length) && (List.zipWith (sameD n) xs ys).all id
    | .list xs, .list ys => decide (xs.length = ys.length) && (List.zipWith (sameD n) xs ys).all id
    | _, _ => false
theorem same_all {n : Nat} (h : ∀ a b, sameD n a b = true → a = b) : ∀ (xs ys : List D), xs.length = ys.length → (List.zipWith (sameD n) xs ys).all id = true → xs = ys
  | [], [], _, _ => rfl
  | [], _ :: _, e, _ => by cases e
  | _ :: _, [], e, _ => by cases e
  | x :: xs, y :: ys, e, g => by
    rw [List.zipWith_cons_cons, List.all_cons, Bool.and_eq_true] at g
    rw [h x y g.1, same_all h xs ys (Nat.succ.inj e) g.2]
theorem same_eq : ∀ (n : Nat) (a b : D), sameD n a b = true → a = b
  | 0, _, _, h => by cases h
  | n + 1, a, b, h => by
    unfold sameD at h
    split at h
    · rfl
    · rw [eq_of_beq h]
    · rw [of_decide_eq_true h]
    · rw [eq_of_beq h]
    · rw [Bool.and_eq_true] at h
      rw [same_all (same_eq n) _ _ (of_decide_eq_true h.1) h.2]
    · rw [Bool.and_eq_true] at h
      rw [same_all (same_eq n) _ _ (of_decide_eq_true h.1) h.2]
    · cases h
def chkL (p : E → Expr → Bool) : List E → List Expr → Bool
  | [], [] => true
  | e :: es, x :: xs => p e x && nst x && chkL p es xs
  | _, _ => false
/-- and, or: at least one -/
def chkO (p : E → Expr → Bool) : List E → List Expr → Bool
  | [e], [x] => p e x
  | e :: f :: es, x :: y :: xs => p e x && chkO p (f :: es) (y :: xs)
  | _, _ => false
def chkP (p : E → Expr → Bool) : List E → Option Expr → Bool
  | [], none => true
  | [e], some x => p e x
  | _, _ => false
def chkG (N : List Str) (fs : Option Scope) (sc : Scope) : Nat → Tg → Expr → Bool
  | 0, _, _ => false
  | n + 1, t, x => match t, x with
    | .name i, .Name y _ => nthB N i y && locB fs sc y
    | .tup ts, .Tuple xs _ _ => decide (xs.length = ts.length) && xs.all nst && (List.zipWith (chkG N fs sc n) ts xs).all id
    | _, _ => false
def chkI (T : Tab) (sc : Scope) (p : E → Expr → Bool) (tg : Expr) : Ik → List E → Expr → Bool
  | .plain, [e], x => p e x
  | .range1, [e], .Call (.Name f _) [x] [] _ => (f == ("range" : Str)) && bis T sc "range" && p e x && nst x
  | .range2, [e, e'], .Call (.Name f _) [x, y] [] _ => (f == ("range" : Str)) && bis T sc "range" && p e x && nst x && p e' y && nst y
  | .enum, [e], .Call (.Name f _) [x] [] _ => (f == ("enumerate" : Str)) && bis T sc "enumerate" && p e x && nst x && isTup tg
  | .zip, [e, e'], .Call (.Name f _) [x, y] [] _ => (f == ("zip" : Str)) && bis T sc "zip" && p e x && nst x && p e' y && nst y && isTup tg
  | _, _, _ => false
def chkY (T : Tab) (sc : Scope) : List Ty → Expr → Bool
  | [t], .Name y _ => (y == tyS t) && bis T sc (tyS t)
  | [t, u], .Tuple [.Name y _, .Name z _] _ _ => (y == tyS t) && bis T sc (tyS t) && (z == tyS u) && bis T sc (tyS u)
  | _, _ => false
def ownL (N : List Str) (own : List Nat) : List (Str × Nat) := own.map fun i => (N.getD i "", i)
def chkC (T : Tab) (N : List Str) (p : Option Scope → Scope → Bool → E → Expr → Bool) (fs : Option Scope) (sc : Scope) (elt : E) (tg : Tg) (k : Ik) (src test : List E) (own : List Nat) (elt' tge iter : Expr) (ifs : List Expr) (scope : Scope) : Bool :=
  blkC N sc scope (ownL N own) && (tgS tg).all (fun i => own.contains i) && nSet iter && chkI T sc (p fs sc false) tge k src iter &&
    chkG N (some scope) (relS scope sc) 9 tg tge && p (some scope) (relS scope sc) false elt elt' && (match test, ifs with
      | [], [] => true
      | [e], [y] => p (some scope) (relS scope sc) true e y
      | _, _ => false)
def nmI (N : List Str) (sc : Scope) (i : Nat) : Expr → Bool
  | .Name u _ => nthB N i u && visB sc u && nmB u
  | _ => false
def chk (T : Tab) (N : List Str) : Nat → Option Scope → Scope → Bool → E → Expr → Bool
  | 0, _, _, _, _, _ => false
  | n + 1, fs, sc, t, m, x => match m, x with
    | .peek e, x => chk T N n fs sc t e x
    | .var i, .Name y _ => nthB N i y && visB sc y && nmB y
    | .cst d, .Constant k _ _ => cstB d k
    | .glob x d, .Name y _ => (x == y) && glB sc x && nmB x && (match T.gls.lookup x with | some d' => sameD 9 d d' | none => false)
    | .tup es, .Tuple xs _ _ => chkL (chk T N n fs sc false) es xs
    | .lst es, .List xs _ => chkL (chk T N n fs sc false) es xs
    | .bin op a b, .BinOp a' o b' _ => decide (o = bopO op) && chk T N n fs sc false a a' && chk T N n fs sc false b b'
    | .neg i, .UnaryOp o (.Constant (.int j) _ _) _ => !t && decide (o = .USub) && decide (i = j)
    | .not a, .UnaryOp o x _ => decide (o = .Not) && chk T N n fs sc t a x
    | .cmp op a b, .Compare a' [o] [b'] _ => decide (o = copO op) && !behindInMarks o b' && chk T N n fs sc false a a' && chk T N n fs sc false b b'
    | .isc g a .none, .Compare a' [o] [.Constant .none _ _] _ => decide (o = if g then .IsNot else .Is) && chk T N n fs sc false a a'
    | .isc g a (.bool k), .Compare a' [o] [.Constant (.bool k') _ _] _ => decide (o = if g then .IsNot else .Is) && (k == k') && chk T N n fs sc false a a'
    | .chn op op' a b c, .Compare a' [o, o'] [b', c'] _ => decide (o = copO op) && decide (o' = copO op') && !behindInMarks o' c' && chk T N n fs sc false a a' && chk T N n fs sc false b b' && chk T N n fs sc false c c'
    | .and es, .BoolOp o xs _ => decide (o = .And) && chkO (chk T N n fs sc t) es xs
    | .or es, .BoolOp o xs _ => decide (o = .Or) && chkO (chk T N n fs sc t) es xs
    | .ite c a b, .IfExp c' a' b' _ => !t && chk T N n fs sc true c c' && chk T N n fs sc false a a' && chk T N n fs sc false b b'
    | .sl a lo hi, .Subscript a' (.Slice l h none _) _ => chk T N n fs sc false a a' && chkP (chk T N n fs sc false) lo l && chkP (chk T N n fs sc false) hi h
    | .rev a, .Subscript a' (.Slice none none (some (.UnaryOp o (.Constant (.int i) _ _) _)) _) _ => decide (o = .USub) && decide (i = 1) && chk T N n fs sc false a a'
    | .ix a i, .Subscript a' i' _ => nSl i' && chk T N n fs sc false a a' && chk T N n fs sc false i i'
    | .bi .sset [e], .Call (.Name y _) [.Call (.Name z _) [x] [] _] [] _ => (y == ("sorted" : Str)) && (z == ("set" : Str)) && bis T sc "sorted" && bis T sc "set" && nst x && chk T N n fs sc false e x
    | .bi .lset [e], .Call (.Name y _) [.Call (.Name z _) [x] [] _] [] _ => (y == ("len" : Str)) && (z == ("set" : Str)) && bis T sc "len" && bis T sc "set" && nst x && chk T N n fs sc false e x
    | .bi .trange [e], .Call (.Name y _) [.Call (.Name z _) [x] [] _] [] _ => (y == ("tuple" : Str)) && (z == ("range" : Str)) && bis T sc "tuple" && bis T sc "range" && nst x && chk T N n fs sc false e x
    | .dget a k, .Subscript (.Call (.Name y _) [a'] [] _) k' _ => (y == ("dict" : Str)) && bis T sc "dict" && nst a' && nSl k' && chk T N n fs sc false a a' && chk T N n fs sc false k k'
    | .dix i k, .Subscript (.Name y _) k' _ => nthB N i y && visB sc y && nmB y && nSl k' && chk T N n fs sc false k k'
    | .callD f i es gs, .Call (.Name y _) xs [] _ => glB sc y && nmB y && (match T.dks.lookup f with | some (z, j) => z == y && decide (j = es.length) | none => false) && chkD (chk T N n fs sc false) (nmI N sc i) gs (chkL (chk T N n fs sc false)) es xs
    | .bi f es, .Call (.Name y _) (x :: xs) [] _ => (match biN f with | some (z, _) => (z == y) && bis T sc y && chkL (chk T N n fs sc false) es (x :: xs) | none => false)
    | .isi a ts, .Call (.Name y _) [a', c] [] _ => (y == ("isinstance" : Str)) && bis T sc "isinstance" && chk T N n fs sc false a a' && nst a' && chkY T sc ts c
    | .meth .upper a [], .Call (.Attribute a' y ap) [] [] p => (y == ("upper" : Str)) && (ap.endLine == p.line) && nmB y && chk T N n fs sc false a a' && (match a' with | .Name _ _ => true | _ => false)
    | .call f es, .Call (.Name y _) (x :: xs) [] _ => glB sc y && nmB y && (match T.fns.lookup f with | some z => z == y | none => false) && chkL (chk T N n fs sc false) es (x :: xs)
    | .call0 f, .Call (.Name y _) [] [] _ => glB sc y && nmB y && (match T.fns.lookup f with | some z => z == y | none => false)
    | .callN f es, .Call (.Name y _) xs [] _ => glB sc y && nmB y && (match T.ios.lookup f with | some z => z == y | none => false) && (match chkX (chk T N n fs sc false) es xs with | some (.List [] _) => true | _ => false)
    | .cell i e, .Call (.Name y _) [.Name s _, x] [] _ => glB sc y && nmB y && (match T.cel with | some z => z == y | none => false) && nthB N i s && visB sc s && nmB s && nst x && chk T N n fs sc false e x
    | .comp elt tg k src test own, .ListComp elt' [⟨tge, iter, ifs, 0⟩] scope _ => chkC T N (chk T N n) fs sc elt tg k src test own elt' tge iter ifs scope
    | _, _ => false

structure Gd (X : Cx) (W : WX) (C : Nat → List D → Rs D) (T : Tab) (N : List Str) (fs : Option Scope) (sc : Scope) : Prop where
  hN : X.N = N
  nd : N.Nodup
  hsc : X.env.scope = sc
  calm : X.calm = true
  un : X.A.units + 100 < cLine
  tk : Takes X W
  fn : ∀ x, (fs = none ∨ ∃ s, fs = some s ∧ s.names.lookup x = some .cell) → X.fn x = true
  bl : ∀ x ∈ T.bl, X.mg x = none
  fnc : ∀ f x, T.fns.lookup f = some x → FnC X (C f) x
  fni : ∀ f x, T.ios.lookup f = some x → FnI X (C f) x
  glc : ∀ x d, T.gls.lookup x = some d → ∃ v u, X.mg x = some u ∧ RelV v u ∧ ∀ F, DV X.K F v d
  cel : ∀ x, T.cel = some x → CellC X x
  dkc : ∀ f x j, T.dks.lookup f = some (x, j) → FnK X (C f) x j
end Pu
/-! ### a match is sound -/
namespace Pu
open PySem PySem.Spec PyProof.Rows L2

section
variable {X : Cx} {W : WX} {C : Nat → List D → Rs D} {T : Tab} {N : List Str} {fs : Option Scope} {sc : Scope} {a b c : E} {x y z : Expr} {pos : Pos}
theorem st_peek (h : PT X x (sT X W C a)) : PT X x (sT X W C (.peek a)) := ptImp h fun σ H Q ⟨F0, B, ρ, F, R, p⟩ => by
  rw [ev] at p
  obtain ⟨F1, R1⟩ := R.look
  refine ⟨F0, B, ρ.map thaw, F1, R1, ?_⟩
  cases e : ev C a (ρ.map thaw) with
  | ok d =>
    rw [e, Rs.bind_ok] at p
    cases g : scalar d with
    | false => rw [g] at p; exact p.elim
    | true =>
      rw [g] at p
      rw [Rs.bind_ok]
      have p : Pg X.mg W (fun _ (b k : Bool) => b = k) (truth d) σ F H Q := p
      cases e2 : truth d with
      | ok k => rw [e2] at p; exact fun v F' H' st ek => p v F H' (st.less R.st.sub) ek
      | exc c => exact absurd e2 (truthNx d c)
      | bad => rw [e2] at p; exact p
  | exc c =>
    rw [e] at p
    exact fun A F' H' m st => p A F H' m (st.less R.st.sub)
  | bad => rw [e] at p; exact p
def Rd (X : Cx) (W : WX) (C : Nat → List D → Rs D) (t : Bool) (m : E) (x : Expr) : Prop := match t with
  | true => PT X x (sT X W C m)
  | false => PE X x (sE X W C m)
theorem rd_of {t : Bool} (h : PE X x (sE X W C a)) (he : plT x = true) : Rd X W C t a x := by
  cases t with
  | false => exact h
  | true =>
    refine st_plain h fun whole => ?_
    cases x <;> first | rfl | exact absurd he Bool.false_ne_true
theorem and3 {a b : Bool} (h : (a && b) = true) : a = true ∧ b = true := by rwa [Bool.and_eq_true] at h
theorem nmB1 {x : Str} (h : nmB x = true) : (x == ("__debug__" : Str)) = false ∧ (x == ("__classdict__" : Str)) = false ∧ x ≠ "__name__" := by
  unfold nmB at h
  obtain ⟨h1, h3⟩ := and3 h
  obtain ⟨h1, h2⟩ := and3 h1
  refine ⟨by simpa using h1, by simpa using h2, fun e => ?_⟩
  rw [e] at h3
  simp at h3
theorem nthB1 {i : Nat} {x : Str} (h : nthB N i x = true) : N[i]? = some x := by
  unfold nthB at h
  split at h
  · rename_i y e
    rw [e, eq_of_beq h]
  · cases h
theorem Gd.gl (G : Gd X W C T N fs sc) {x : Str} (h : glB sc x = true) : Gl X x := by
  unfold glB at h
  split at h
  · rename_i e
    show X.env.scope.names.lookup x = _
    rw [G.hsc, e]
  · cases h
theorem Gd.vis (G : Gd X W C T N fs sc) {x : Str} (h : visB sc x = true) : Vis X.env.scope x := by
  unfold visB at h
  rw [G.hsc]
  split at h
  · rename_i e; exact .inl e
  · rename_i e; exact .inr (.inl e)
  · rename_i e; exact .inr (.inr e)
  · cases h
theorem Gd.bis (G : Gd X W C T N fs sc) {x : Str} (h : bis T sc x = true) : Gl X x ∧ X.mg x = none ∧ (x == ("__debug__" : Str)) = false ∧ x ≠ "__name__" := by
  unfold Pu.bis at h
  obtain ⟨h1, h3⟩ := and3 h
  obtain ⟨h1, h2⟩ := and3 h1
  exact ⟨G.gl h1, G.bl x (by simpa using h3), (nmB1 h2).1, (nmB1 h2).2.2⟩
theorem Gd.loc (G : Gd X W C T N fs sc) {x : Str} (h : locB fs sc x = true) : Loc X.env.scope x ∧ (X.fn x = true ∨ X.env.scope.names.lookup x = some .local) := by
  unfold locB at h
  rw [G.hsc]
  split at h
  · rename_i e; exact ⟨.inl e, .inr e⟩
  · rename_i e
    refine ⟨.inr e, .inl (G.fn x ?_)⟩
    split at h
    · exact .inl rfl
    · rename_i s
      unfold cellB at h
      split at h
      · rename_i e2; exact .inr ⟨s, rfl, e2⟩
      · cases h
  · cases h
theorem Gd.blk (G : Gd X W C T N fs sc) {scope : Scope} (s : Shared) (H : Hp) (Cc : Addr) (cl : List (Str × Addr)) (fp : List Addr) : Gd (X.blk s H scope (compEnvC scope cl Cc X.env) fp) W0 C T N (some scope) (relS scope sc) where
  hN := G.hN
  nd := G.nd
  hsc := by rw [← G.hsc]; rfl
  calm := G.calm
  un := G.un
  tk := fun u s' ⟨_, _, _, _, _, _, _, _, _, _, _, _, _, _, _, _, w⟩ => w
  fn := fun x h => by
    rcases h with h | ⟨s', h1, h2⟩
    · cases h
    · cases h1
      show (scope.names.lookup x == some .cell) = true
      rw [h2]; rfl
  bl := G.bl
  fnc := fun f x h => ⟨(G.fnc f x h).ex⟩
  fni := fun f x h => ⟨(G.fni f x h).ex⟩
  glc := G.glc
  cel := fun x h => ⟨(G.cel x h).ex⟩
  dkc := fun f x j h => ⟨(G.dkc f x j h).ex⟩
theorem chkL_ok {p : E → Expr → Bool} (hp : ∀ e x, p e x = true → PE X x (sE X W C e)) : ∀ {es : List E} {xs : List Expr}, chkL p es xs = true → PA X xs (sA X W C es) ∧ xs.all nst = true
  | [], [], _ => ⟨sa_nil, rfl⟩
  | [], _ :: _, h => by cases h
  | _ :: _, [], h => by cases h
  | e :: es, x :: xs, h => by
    unfold chkL at h
    obtain ⟨h, h3⟩ := and3 h
    obtain ⟨h1, h2⟩ := and3 h
    obtain ⟨i1, i2⟩ := chkL_ok hp h3
    exact ⟨sa_cons (hp _ _ h1) i1 (star_ns h2), by rw [List.all_cons, h2, i2]; rfl⟩
theorem chkO_and {p : E → Expr → Bool} (hp : ∀ e x, p e x = true → PE X x (sE X W C e)) : ∀ {es : List E} {xs : List Expr}, chkO p es xs = true → PE X (.BoolOp .And xs pos) (sE X W C (.and es))
  | [e], [x], h => se_one (hp _ _ h) evAnd_one
  | e :: f :: es, x :: y :: xs, h => by
    unfold chkO at h
    obtain ⟨h1, h2⟩ := and3 h
    exact se_and (hp _ _ h1) (chkO_and hp h2)
  | [], _, h => by cases h
  | [_], [], h => by cases h
  | [_], _ :: _ :: _, h => by cases h
  | _ :: _ :: _, [], h => by cases h
  | _ :: _ :: _, [_], h => by cases h
theorem chkO_or {p : E → Expr → Bool} (hp : ∀ e x, p e x = true → PE X x (sE X W C e)) : ∀ {es : List E} {xs : List Expr}, chkO p es xs = true → PE X (.BoolOp .Or xs pos) (sE X W C (.or es))
  | [e], [x], h => se_one (hp _ _ h) evOr_one
  | e :: f :: es, x :: y :: xs, h => by
    unfold chkO at h
    obtain ⟨h1, h2⟩ := and3 h
    exact se_or (hp _ _ h1) (chkO_or hp h2)
  | [], _, h => by cases h
  | [_], [], h => by cases h
  | [_], _ :: _ :: _, h => by cases h
  | _ :: _ :: _, [], h => by cases h
  | _ :: _ :: _, [_], h => by cases h
theorem chkO_wand {p : E → Expr → Bool} (hp : ∀ e x, p e x = true → PT X x (sT X W C e)) : ∀ {es : List E} {xs : List Expr}, chkO p es xs = true → PW X (.BoolOp .And xs pos) (sT X W C (.and es))
  | [e], [x], h => sw_and1 (hp _ _ h)
  | e :: f :: es, x :: y :: xs, h => by
    unfold chkO at h
    obtain ⟨h1, h2⟩ := and3 h
    exact sw_and (hp _ _ h1) (chkO_wand hp h2)
  | [], _, h => by cases h
  | [_], [], h => by cases h
  | [_], _ :: _ :: _, h => by cases h
  | _ :: _ :: _, [], h => by cases h
  | _ :: _ :: _, [_], h => by cases h
theorem chkO_wor {p : E → Expr → Bool} (hp : ∀ e x, p e x = true → PT X x (sT X W C e)) : ∀ {es : List E} {xs : List Expr}, chkO p es xs = true → PW X (.BoolOp .Or xs pos) (sT X W C (.or es))
  | [e], [x], h => sw_or1 (hp _ _ h)
  | e :: f :: es, x :: y :: xs, h => by
    unfold chkO at h
    obtain ⟨h1, h2⟩ := and3 h
    exact sw_or (hp _ _ h1) (chkO_wor hp h2)
  | [], _, h => by cases h
  | [_], [], h => by cases h
  | [_], _ :: _ :: _, h => by cases h
  | _ :: _ :: _, [], h => by cases h
  | _ :: _ :: _, [_], h => by cases h
theorem chkP_ok {p : E → Expr → Bool} (hp : ∀ e x, p e x = true → PE X x (sE X W C e)) : ∀ {es : List E} {o : Option Expr}, chkP p es o = true → PO X o (sO X W C es)
  | [], none, _ => so_none
  | [e], some x, h => so_some (hp _ _ h)
  | [], some _, h => by cases h
  | [_], none, h => by cases h
  | _ :: _ :: _, none, h => by cases h
  | _ :: _ :: _, some _, h => by cases h
theorem chkG_ok (G : Gd X W C T N fs sc) : ∀ (n : Nat) (t : Tg) (x : Expr), chkG N fs sc n t x = true → PG X x (sG X t)
  | 0, _, _, h => by cases h
  | n + 1, t, x, h => by
    unfold chkG at h
    split at h
    · obtain ⟨h1, h2⟩ := and3 h
      obtain ⟨k1, k2⟩ := G.loc h2
      exact sg_name (by rw [G.hN]; exact G.nd) (by rw [G.hN]; exact nthB1 h1) k1 k2
    · rename_i ts xs _ _
      obtain ⟨h, h3⟩ := and3 h
      obtain ⟨h1, h2⟩ := and3 h
      have go : ∀ (ts : List Tg) (xs : List Expr), xs.length = ts.length → xs.all nst = true → (List.zipWith (chkG N fs sc n) ts xs).all id = true → PGs X xs (sGs X ts) := by
        intro ts
        induction ts with
        | nil =>
          intro xs e _ _
          have : xs = [] := List.eq_nil_of_length_eq_zero e
          subst this
          exact sgs_nil
        | cons t ts ih =>
          intro xs e k1 k2
          cases xs with
          | nil => cases e
          | cons x xs =>
            rw [List.all_cons] at k1
            rw [List.zipWith_cons_cons, List.all_cons] at k2
            obtain ⟨k1, k1'⟩ := and3 k1
            obtain ⟨k2, k2'⟩ := and3 k2
            exact sgs_cons (chkG_ok G n t x k2) (ih xs (Nat.succ.inj e) k1' k2') k1
      exact sg_tup G.calm (go ts xs (of_decide_eq_true h1) h2 h3) h2 (of_decide_eq_true h1)
    · cases h
theorem chkI_ok (G : Gd X W C T N fs sc) {p : E → Expr → Bool} {tg : Expr} (hp : ∀ e x, p e x = true → PE X x (sE X W C e)) {k : Ik} {src : List E} {it : Expr} (h : chkI T sc p tg k src it = true) : PI X tg it (sI X W C k src) := by
  unfold chkI at h
  split at h
  · exact si_plain (hp _ _ h)
  · obtain ⟨h, h4⟩ := and3 h
    obtain ⟨h, h3⟩ := and3 h
    obtain ⟨h1, h2⟩ := and3 h
    have e := eq_of_beq h1
    subst e
    obtain ⟨b1, b2, _⟩ := G.bis h2
    exact si_range1 b1 b2 (sa_cons (hp _ _ h3) sa_nil (star_ns h4)) (star_ns h4)
  · obtain ⟨h, h6⟩ := and3 h
    obtain ⟨h, h5⟩ := and3 h
    obtain ⟨h, h4⟩ := and3 h
    obtain ⟨h, h3⟩ := and3 h
    obtain ⟨h1, h2⟩ := and3 h
    have e := eq_of_beq h1
    subst e
    obtain ⟨b1, b2, _⟩ := G.bis h2
    exact si_range2 b1 b2 (sa_cons (hp _ _ h3) (sa_cons (hp _ _ h5) sa_nil (star_ns h6)) (star_ns h4)) (by rw [star_ns h4, star_ns h6]; rfl) (star_ns h6)
  · obtain ⟨h, h5⟩ := and3 h
    obtain ⟨h, h4⟩ := and3 h
    obtain ⟨h, h3⟩ := and3 h
    obtain ⟨h1, h2⟩ := and3 h
    have e := eq_of_beq h1
    subst e
    obtain ⟨b1, b2, _⟩ := G.bis h2
    unfold isTup at h5
    split at h5
    · exact si_enum b1 b2 (sa_cons (hp _ _ h3) sa_nil (star_ns h4)) (star_ns h4)
    · cases h5
  · obtain ⟨h, h7⟩ := and3 h
    obtain ⟨h, h6⟩ := and3 h
    obtain ⟨h, h5⟩ := and3 h
    obtain ⟨h, h4⟩ := and3 h
    obtain ⟨h, h3⟩ := and3 h
    obtain ⟨h1, h2⟩ := and3 h
    have e := eq_of_beq h1
    subst e
    obtain ⟨b1, b2, _⟩ := G.bis h2
    unfold isTup at h7
    split at h7
    · exact si_zip b1 b2 (sa_cons (hp _ _ h3) (sa_cons (hp _ _ h5) sa_nil (star_ns h6)) (star_ns h4)) (star_ns h4) (any_ns (xs := [_]) (by rw [List.all_cons, h6]; rfl))
    · cases h7
  · cases h
theorem tyboot : ∀ t : Ty, bootBuiltins (tyS t) = some (.type (tyN t))
  | .tuple => PyProof.Rows.boot_tuple
  | .str => PyProof.Rows.boot_str
  | .int => PyProof.Rows.boot_int
  | .bool => PyProof.Rows.boot_bool
theorem Gd.ty (G : Gd X W C T N fs sc) {t : Ty} {p : Pos} (h : Pu.bis T sc (tyS t) = true) : PE X (.Name (tyS t) p) (tC (.ty (tyN t))) := by
  obtain ⟨b1, b2, b3, b4⟩ := G.bis h
  exact pe_tyname b1 b2 (tyboot t) b4 b3
theorem chkY_ok (G : Gd X W C T N fs sc) {ts : List Ty} {c : Expr} {p : Pos} (hb : Pu.bis T sc "isinstance" = true) (ha : PE X x (sE X W C a)) (hn : nst x = true) (h : chkY T sc ts c = true) : PE X (.Call (.Name "isinstance" p) [x, c] [] pos) (sE X W C (.isi a ts)) := by
  obtain ⟨b1, b2, b3, b4⟩ := G.bis hb
  unfold chkY at h
  split at h
  · obtain ⟨h1, h2⟩ := and3 h
    have e := eq_of_beq h1
    subst e
    exact se_isi1 (nm := "") (p2 := p) b1 b2 ha (G.ty h2) (star_ns hn) rfl rfl
  · obtain ⟨h, h4⟩ := and3 h
    obtain ⟨h, h3⟩ := and3 h
    obtain ⟨h1, h2⟩ := and3 h
    have e := eq_of_beq h1
    subst e
    have e := eq_of_beq h3
    subst e
    exact se_isi2 b1 b2 ha (G.ty h2) (G.ty h4) (star_ns hn) rfl rfl rfl
  · cases h
theorem bi_ok (G : Gd X W C T N fs sc) {f : Bi} {es : List E} {xs : List Expr} {nm z : Str} {p : Pos} {q : Bool × String} (hf : biN f = some (z, q)) (hz : (z == nm) = true) (hb : Pu.bis T sc nm = true) (h : PA X (x :: xs) (sA X W C es)) (hn : (x :: xs).all nst = true) :
    PE X (.Call (.Name nm p) (x :: xs) [] pos) (sE X W C (.bi f es)) := by
  obtain ⟨b1, b2, b3, b4⟩ := G.bis hb
  have e := eq_of_beq hz
  subst e
  rw [List.all_cons] at hn
  obtain ⟨n1, n2⟩ := and3 hn
  cases f with
  | len => cases hf; exact se_biB cl_len b1 b2 PySem.boot_len h b4 b3 (star_ns n1) (any_ns n2)
  | all => cases hf; exact se_biB (cl_all G.calm) b1 b2 PyProof.Rows.boot_all h b4 b3 (star_ns n1) (any_ns n2)
  | any => cases hf; exact se_biB (cl_any G.calm) b1 b2 PyProof.Rows.boot_any h b4 b3 (star_ns n1) (any_ns n2)
  | sum => cases hf; exact se_biB (cl_sum G.calm) b1 b2 PyProof.Rows.boot_sum h b4 b3 (star_ns n1) (any_ns n2)
  | tuple => cases hf; exact se_biT cl_tuple b1 b2 PyProof.Rows.boot_tuple h b4 b3 (star_ns n1) (any_ns n2)
  | list => cases hf; exact se_biT cl_list b1 b2 PyProof.Rows.boot_list h b4 b3 (star_ns n1) (any_ns n2)
  | min2 => cases hf; exact se_biB (cl_min2 G.calm) b1 b2 PyProof.Rows.boot_min h b4 b3 (star_ns n1) (any_ns n2)
  | intb => cases hf; exact se_biT cl_int b1 b2 PyProof.Rows.boot_int h b4 b3 (star_ns n1) (any_ns n2)
  | sorted => cases hf; exact se_biB (cl_sorted G.un) b1 b2 PyProof.Rows.boot_sorted h b4 b3 (star_ns n1) (any_ns n2)
  | sset => cases hf
  | lset => cases hf
  | trange => cases hf
theorem cst_ok {d : D} {k : Const} {j : Nat} (h : cstB d k = true) : PE X (.Constant k j pos) (sE X W C (.cst d)) := by
  unfold cstB at h
  split at h
  · exact se_cst pe_non fun _ => .non
  · rw [eq_of_beq h]; exact se_cst pe_bl fun _ => .bl _
  · rw [of_decide_eq_true h]; exact se_cst pe_int fun _ => .int _
  · obtain ⟨h1, h2⟩ := and3 h
    have e := eq_of_beq h1
    subst e
    exact se_cst pe_str fun _ => .str h2
  · cases h
theorem own_snd (N : List Str) (own : List Nat) : (ownL N own).map (·.2) = own := by
  unfold ownL
  rw [List.map_map]
  exact List.map_id _
theorem hset {iter : Expr} {env : Env} (h : nSet iter = true) : ∀ v, foldedSetIterable iter env v = pure v := by
  intro v
  cases iter <;> first | rfl | cases h
theorem noSl {i : Expr} (h : nSl i = true) : NoSl i := by
  intro o v
  cases i <;> first | rfl | cases h
theorem nmI_ok (G : Gd X W C T N fs sc) {i : Nat} (h : nmI N sc i x = true) : PE X x (tVar i) := by
  unfold nmI at h
  split at h
  · obtain ⟨h, h3⟩ := and3 h
    obtain ⟨h1, h2⟩ := and3 h
    obtain ⟨k1, k2, _⟩ := nmB1 h3
    exact pe_var (by rw [G.hN]; exact nthB1 h1) (G.vis h2) k1 k2
  · cases h
theorem plIx {i : Expr} (h : nSl i = true) : PlainIx i := by
  intro o v
  cases i <;> first | rfl | cases h
end
end Pu
namespace Pu
open PySem PySem.Spec PyProof.Rows L2
theorem isN_rd {X : Cx} {W : WX} {C : Nat → List D → Rs D} {a : E} {x : Expr} {pos np : Pos} {nj : Nat} : ∀ {g t : Bool}, PE X x (sE X W C a) → Rd X W C t (.isc g a .none) (.Compare x [if g then .IsNot else .Is] [.Constant .none nj np] pos)
  | false, false, h => se_isN h
  | false, true, h => st_isN h
  | true, false, h => se_notN h
  | true, true, h => st_notN h
theorem isB_rd {X : Cx} {W : WX} {C : Nat → List D → Rs D} {a : E} {x : Expr} {pos np : Pos} {nj : Nat} {k : Bool} : ∀ {g t : Bool}, PE X x (sE X W C a) → Rd X W C t (.isc g a (.bool k)) (.Compare x [if g then .IsNot else .Is] [.Constant (.bool k) nj np] pos)
  | false, false, h => se_isB h
  | false, true, h => st_isB h
  | true, false, h => se_notB h
  | true, true, h => st_notB h
theorem chkC_ok {C : Nat → List D → Rs D} {T : Tab} {N : List Str} {p : Option Scope → Scope → Bool → E → Expr → Bool} {X : Cx} {W : WX} {fs : Option Scope} {sc : Scope} {elt : E} {tg : Tg} {k : Ik} {src test : List E} {own : List Nat} {elt' tge iter : Expr} {ifs : List Expr} {scope : Scope}
    (G : Gd X W C T N fs sc) (hp : ∀ {X : Cx} {W : WX} {fs : Option Scope} {sc : Scope} (t : Bool) (m : E) (x : Expr), Gd X W C T N fs sc → p fs sc t m x = true → Rd X W C t m x) (h : chkC T N p fs sc elt tg k src test own elt' tge iter ifs scope = true) :
    PI X tge iter (sI X W C k src) ∧ BlkOk X.N X.env.scope scope (ownL N own) ∧ (∀ (s : Shared) (H : Hp) (Cc : Addr) (cl : List (Str × Addr)) (fp : List Addr), PG (X.blk s H scope (compEnvC scope cl Cc X.env) fp) tge (sG X tg)) ∧
    (∀ (s : Shared) (H : Hp) (Cc : Addr) (cl : List (Str × Addr)) (fp : List Addr), PTs (X.blk s H scope (compEnvC scope cl Cc X.env) fp) ifs (sTs X W0 C test)) ∧
    (∀ (s : Shared) (H : Hp) (Cc : Addr) (cl : List (Str × Addr)) (fp : List Addr), PE (X.blk s H scope (compEnvC scope cl Cc X.env) fp) elt' (sE X W0 C elt)) ∧
    (∀ v, foldedSetIterable iter X.env v = pure v) ∧ (∀ i ∈ tgS tg, i ∈ (ownL N own).map (·.2)) := by
  unfold chkC at h
  obtain ⟨h, h7⟩ := and3 h
  obtain ⟨h, h6⟩ := and3 h
  obtain ⟨h, h5⟩ := and3 h
  obtain ⟨h, h4⟩ := and3 h
  obtain ⟨h, h3⟩ := and3 h
  obtain ⟨h1, h2⟩ := and3 h
  refine ⟨chkI_ok G (fun e x h => hp false e x G h) h4, by rw [G.hN, G.hsc]; exact blkOk_by h1, fun s H Cc cl fp => chkG_ok (G.blk s H Cc cl fp) _ _ _ h5, fun s H Cc cl fp => ?_, fun s H Cc cl fp => hp false _ _ (G.blk s H Cc cl fp) h6, hset h3, fun i hi => ?_⟩
  · split at h7
    · exact sts_nil
    · exact sts_one (hp true _ _ (G.blk s H Cc cl fp) h7)
    · cases h7
  · rw [own_snd]
    have := List.all_eq_true.mp h2 i hi
    simpa using this
theorem chk_ok {C : Nat → List D → Rs D} {T : Tab} {N : List Str} : ∀ (n : Nat) {X : Cx} {W : WX} {fs : Option Scope} {sc : Scope} (t : Bool) (m : E) (x : Expr), Gd X W C T N fs sc → chk T N n fs sc t m x = true → Rd X W C t m x
  | 0, _, _, _, _, _, _, _, _, h => by cases h
  | n + 1, X, W, fs, sc, t, m, x, G, h => by
    have hE : ∀ e x, chk T N n fs sc false e x = true → PE X x (sE X W C e) := fun e x h => chk_ok n false e x G h
    have hT : ∀ e x, chk T N n fs sc true e x = true → PT X x (sT X W C e) := fun e x h => chk_ok n true e x G h
    have hu : X.A.units + 66 < cLine := by have := G.un; omega
    have hnd : X.N.Nodup := by rw [G.hN]; exact G.nd
    unfold chk at h
    split at h
    · -- peek
      cases t with
      | false => exact se_peek (hE _ _ h)
      | true => exact st_peek (hT _ _ h)
    · -- var
      obtain ⟨h, h3⟩ := and3 h
      obtain ⟨h1, h2⟩ := and3 h
      obtain ⟨k1, k2, _⟩ := nmB1 h3
      exact rd_of (se_var (by rw [G.hN]; exact nthB1 h1) (G.vis h2) k1 k2) rfl
    · -- cst
      exact rd_of (cst_ok h) rfl
    · -- glob
      obtain ⟨h, h4⟩ := and3 h
      obtain ⟨h, h3⟩ := and3 h
      obtain ⟨h1, h2⟩ := and3 h
      have e := eq_of_beq h1
      subst e
      split at h4
      · rename_i d' e
        have e2 := same_eq _ _ _ h4
        subst e2
        exact rd_of (se_glob (G.gl h2) (G.glc _ _ e) (nmB1 h3).1) rfl
      · cases h4
    · -- tup
      exact rd_of (se_tup (chkL_ok hE h).1) rfl
    · -- lst
      exact rd_of (sE_sL (sl_lst (chkL_ok hE h).1) lst_lists) rfl
    · -- bin
      obtain ⟨h, h3⟩ := and3 h
      obtain ⟨h1, h2⟩ := and3 h
      have e := of_decide_eq_true h1
      subst e
      exact rd_of (se_bin (or_bin _) (hE _ _ h2) (hE _ _ h3)) rfl
    · -- neg
      obtain ⟨h, h3⟩ := and3 h
      obtain ⟨h1, h2⟩ := and3 h
      have e := of_decide_eq_true h2
      subst e
      have e := of_decide_eq_true h3
      subst e
      cases t with
      | false => exact se_neg
      | true => cases h1
    · -- not
      obtain ⟨h1, h2⟩ := and3 h
      have e := of_decide_eq_true h1
      subst e
      cases t with
      | false => exact se_not (hE _ _ h2)
      | true => exact st_not (hT _ _ h2)
    · -- cmp
      obtain ⟨h, h4⟩ := and3 h
      obtain ⟨h, h3⟩ := and3 h
      obtain ⟨h1, h2⟩ := and3 h
      have e := of_decide_eq_true h1
      subst e
      have hm := Bool.not_eq_true' _ ▸ h2
      cases t with
      | false => exact se_cmp hu (hE _ _ h3) (hE _ _ h4) hm
      | true => exact st_cmp hu (hE _ _ h3) (hE _ _ h4) hm
    · -- is None
      obtain ⟨h1, h2⟩ := and3 h
      have e := of_decide_eq_true h1
      subst e
      exact isN_rd (hE _ _ h2)
    · -- is True
      obtain ⟨h, h2⟩ := and3 h
      obtain ⟨h1, h3⟩ := and3 h
      have e := of_decide_eq_true h1
      subst e
      have e := eq_of_beq h3
      subst e
      exact isB_rd (hE _ _ h2)
    · -- chn
      obtain ⟨h, h6⟩ := and3 h
      obtain ⟨h, h5⟩ := and3 h
      obtain ⟨h, h4⟩ := and3 h
      obtain ⟨h, h3⟩ := and3 h
      obtain ⟨h1, h2⟩ := and3 h
      have e := of_decide_eq_true h1
      subst e
      have e := of_decide_eq_true h2
      subst e
      have hm := Bool.not_eq_true' _ ▸ h3
      cases t with
      | false => exact se_chn hu (hE _ _ h4) (hE _ _ h5) (hE _ _ h6) hm
      | true => exact st_chn hu (hE _ _ h4) (hE _ _ h5) (hE _ _ h6) hm
    · -- and
      obtain ⟨h1, h2⟩ := and3 h
      have e := of_decide_eq_true h1
      subst e
      cases t with
      | false => exact chkO_and hE h2
      | true => exact (chkO_wand hT h2).pt
    · -- or
      obtain ⟨h1, h2⟩ := and3 h
      have e := of_decide_eq_true h1
      subst e
      cases t with
      | false => exact chkO_or hE h2
      | true => exact (chkO_wor hT h2).pt
    · -- ite
      obtain ⟨h, h4⟩ := and3 h
      obtain ⟨h, h3⟩ := and3 h
      obtain ⟨h1, h2⟩ := and3 h
      cases t with
      | false => exact se_ite (hT _ _ h2) (hE _ _ h3) (hE _ _ h4)
      | true => cases h1
    · -- sl
      obtain ⟨h, h3⟩ := and3 h
      obtain ⟨h1, h2⟩ := and3 h
      exact rd_of (se_sl (hE _ _ h1) (chkP_ok hE h2) (chkP_ok hE h3)) rfl
    · -- rev
      obtain ⟨h, h3⟩ := and3 h
      obtain ⟨h1, h2⟩ := and3 h
      have e := of_decide_eq_true h1
      subst e
      have e := of_decide_eq_true h2
      subst e
      exact rd_of (se_rev (hE _ _ h3)) rfl
    · -- ix
      obtain ⟨h, h3⟩ := and3 h
      obtain ⟨h1, h2⟩ := and3 h
      exact rd_of (se_ix (hE _ _ h2) (hE _ _ h3) (plIx h1)) rfl
    · -- sorted(set)
      obtain ⟨h, h6⟩ := and3 h
      obtain ⟨h, h5⟩ := and3 h
      obtain ⟨h, h4⟩ := and3 h
      obtain ⟨h, h3⟩ := and3 h
      obtain ⟨h1, h2⟩ := and3 h
      have e := eq_of_beq h1
      subst e
      have e := eq_of_beq h2
      subst e
      obtain ⟨b1, b2, _⟩ := G.bis h3
      obtain ⟨c1, c2, _⟩ := G.bis h4
      exact rd_of (se_sset G.calm G.un b1 b2 c1 c2 (hE _ _ h6) h5) rfl
    · -- len(set)
      obtain ⟨h, h6⟩ := and3 h
      obtain ⟨h, h5⟩ := and3 h
      obtain ⟨h, h4⟩ := and3 h
      obtain ⟨h, h3⟩ := and3 h
      obtain ⟨h1, h2⟩ := and3 h
      have e := eq_of_beq h1
      subst e
      have e := eq_of_beq h2
      subst e
      obtain ⟨b1, b2, _⟩ := G.bis h3
      obtain ⟨c1, c2, _⟩ := G.bis h4
      exact rd_of (se_lset G.calm G.un b1 b2 c1 c2 (hE _ _ h6) h5) rfl
    · -- tuple(range)
      obtain ⟨h, h6⟩ := and3 h
      obtain ⟨h, h5⟩ := and3 h
      obtain ⟨h, h4⟩ := and3 h
      obtain ⟨h, h3⟩ := and3 h
      obtain ⟨h1, h2⟩ := and3 h
      have e := eq_of_beq h1
      subst e
      have e := eq_of_beq h2
      subst e
      obtain ⟨b1, b2, _⟩ := G.bis h3
      obtain ⟨c1, c2, _⟩ := G.bis h4
      exact rd_of (se_trange G.calm b1 b2 c1 c2 (hE _ _ h6) h5) rfl
    · -- dget
      obtain ⟨h, h6⟩ := and3 h
      obtain ⟨h, h5⟩ := and3 h
      obtain ⟨h, h4⟩ := and3 h
      obtain ⟨h, h3⟩ := and3 h
      obtain ⟨h1, h2⟩ := and3 h
      have e := eq_of_beq h1
      subst e
      obtain ⟨b1, b2, _⟩ := G.bis h2
      exact rd_of (se_dget (by omega) G.calm b1 b2 (hE _ _ h5) (star_ns h3) (hE _ _ h6) (noSl h4)) rfl
    · -- dix
      obtain ⟨h, h5⟩ := and3 h
      obtain ⟨h, h4⟩ := and3 h
      obtain ⟨h, h3⟩ := and3 h
      obtain ⟨h1, h2⟩ := and3 h
      obtain ⟨k1, k2, _⟩ := nmB1 h3
      exact rd_of (se_dix (by omega) (pe_var (by rw [G.hN]; exact nthB1 h1) (G.vis h2) k1 k2) (hE _ _ h5) (noSl h4)) rfl
    · -- callD
      obtain ⟨h, h4⟩ := and3 h
      obtain ⟨h, h3⟩ := and3 h
      obtain ⟨h1, h2⟩ := and3 h
      split at h3
      · rename_i z j e
        obtain ⟨e2, e3⟩ := and3 h3
        have e2 := eq_of_beq e2
        subst e2
        have e3 := of_decide_eq_true e3
        subst e3
        exact rd_of (se_callD (G.dkc _ _ _ e) G.tk (G.gl h1) hE (fun x h => nmI_ok G h) (fun xs h => chkL_ok hE h) h4 (nmB1 h2).1) rfl
      · cases h3
    · -- bi
      split at h
      · rename_i z q e
        obtain ⟨h, h3⟩ := and3 h
        obtain ⟨h1, h2⟩ := and3 h
        obtain ⟨k1, k2⟩ := chkL_ok hE h3
        exact rd_of (bi_ok G e h1 h2 k1 k2) rfl
      · cases h
    · -- isi
      obtain ⟨h, h5⟩ := and3 h
      obtain ⟨h, h4⟩ := and3 h
      obtain ⟨h, h3⟩ := and3 h
      obtain ⟨h1, h2⟩ := and3 h
      have e := eq_of_beq h1
      subst e
      exact rd_of (chkY_ok G h2 (hE _ _ h3) h4 h5) rfl
    · -- upper
      obtain ⟨h, h5⟩ := and3 h
      obtain ⟨h, h4⟩ := and3 h
      obtain ⟨h, h3⟩ := and3 h
      obtain ⟨h1, h2⟩ := and3 h
      have e := eq_of_beq h1
      subst e
      split at h5
      · exact rd_of (se_upper (hE _ _ h4) rfl h2) rfl
      · cases h5
    · -- call
      obtain ⟨h, h4⟩ := and3 h
      obtain ⟨h, h3⟩ := and3 h
      obtain ⟨h1, h2⟩ := and3 h
      split at h3
      · rename_i z e
        have e2 := eq_of_beq h3
        subst e2
        obtain ⟨k1, k2⟩ := chkL_ok hE h4
        rw [List.all_cons] at k2
        obtain ⟨n1, n2⟩ := and3 k2
        exact rd_of (se_call (G.fnc _ _ e) G.tk (G.gl h1) k1 (nmB1 h2).1 (star_ns n1) (any_ns n2)) rfl
      · cases h3
    · -- call0
      obtain ⟨h, h3⟩ := and3 h
      obtain ⟨h1, h2⟩ := and3 h
      split at h3
      · rename_i z e
        have e2 := eq_of_beq h3
        subst e2
        exact rd_of (se_call0 (G.fnc _ _ e) (G.gl h1) (nmB1 h2).1) rfl
      · cases h3
    · -- callN
      obtain ⟨h, h4⟩ := and3 h
      obtain ⟨h, h3⟩ := and3 h
      obtain ⟨h1, h2⟩ := and3 h
      split at h3
      · rename_i z e
        have e2 := eq_of_beq h3
        subst e2
        split at h4
        · rename_i pl ex
          exact rd_of (se_callN (G.fni _ _ e) G.tk (G.gl h1) hE ex (nmB1 h2).1) rfl
        · cases h4
      · cases h3
    · -- cell
      obtain ⟨h, h8⟩ := and3 h
      obtain ⟨h, h7⟩ := and3 h
      obtain ⟨h, h6⟩ := and3 h
      obtain ⟨h, h5⟩ := and3 h
      obtain ⟨h, h4⟩ := and3 h
      obtain ⟨h, h3⟩ := and3 h
      obtain ⟨h1, h2⟩ := and3 h
      split at h3
      · rename_i z e
        have e2 := eq_of_beq h3
        subst e2
        exact rd_of (se_cell (G.cel _ e) G.tk (G.gl h1) (by rw [G.hN]; exact nthB1 h4) (G.vis h5) (nmB1 h6).1 (nmB1 h6).2.1 (hE _ _ h8) (nmB1 h2).1 (star_ns h7) (any_ns (xs := [_]) (by rw [List.all_cons, h7]; rfl))) rfl
      · cases h3
    · -- comp
      rename_i elt tg k src test own elt' tge iter ifs scope ps
      obtain ⟨q1, q2, q3, q4, q5, q6, q7⟩ := chkC_ok G (fun t m x G h => chk_ok n t m x G h) h
      have q := sl_comp (W := W) (C := C) (elt := elt') (tge := tge) (iter := iter) (ifs := ifs) (e := elt) (tg := tg) (k := k) (src := src) (test := test) (pos := ps) G.calm hnd q1 q2 q3 q4 q5 q6 q7
      rw [own_snd] at q
      exact rd_of (sE_sL q comp_lists) rfl
    · cases h
end Pu
/-! ### statements -/
namespace Pu
open PySem PySem.Spec PyProof.Rows L2
section
variable {X : Cx} {W : WX} {C : Nat → List D → Rs D} {T : Tab} {N : List Str} {sc : Scope} {a b c : E} {x y z : Expr} {pos : Pos} {st : Stmt} {te te1 te2 : TE}
theorem own_at {F0 B F H F2 H2 : Hp} {ρ : En} {σ : L2.St} {i : Nat} {p : Addr} {vs : List V} {ds : List D} (R : Rel X.kk F0 B ρ σ F H) (s : Stp F H F2 H2) (h1 : F2 p = none) (h2 : H p = none) (h3 : H2 p = some (.lst vs)) (h4 : DVs X.K F2 vs ds) :
    Rel X.kk F0 B (ρ.set i (.own ds)) (σ.set i (some (.ref p))) F2 H2 := (R.step s).own i h1 h3 (R.st.sH.free h2) h4 fun j es _ e1 e2 => by
  have q := R.sl j
  rw [e1] at q
  obtain ⟨b, zs, q1, q2, q3, _⟩ := q
  rw [e2] at q1
  cases q1
  rw [h2] at q3
  cases q3
theorem ss_parO {i j : Nat} (h : PS X st (tPar i j (tCons te1 (tCons te2 tNil)))) (h1 : ∀ σ H Q, sL X W C a σ H Q → te1 σ H Q) (h2 : ∀ σ H Q, sE X W C b σ H Q → te2 σ H Q) : PS X st (sS X W C (.par i j true false a b)) := psImp h fun D σ H ⟨F0, B, ρ, F, R, p⟩ => by
  rw [evS] at p
  refine h1 _ _ _ ⟨F0, B, ρ, F, R, ?_⟩
  cases e : ev C a ρ with
  | exc c => rw [e] at p; exact fun A F' H' mm st => p A σ F' H' mm (R.st.trans st)
  | bad => rw [e] at p; exact p
  | ok d =>
    rw [e] at p
    match d, p with
    | .list ds, p =>
      intro v H1 ⟨q, vs, F1, ev, st1, f1, f2, f3, f4⟩
      subst ev
      refine h2 _ _ _ ⟨F0, B, ρ, F1, R.step st1, fl_of (R.step st1) p fun d2 w F2 H2 _ st2 dv2 p2 => ?_⟩
      refine ⟨.ref q, w, rfl, ?_⟩
      have g1 : F2 q = none := by
        cases e : F2 q with
        | none => rfl
        | some o =>
          rcases st2.new q o e with z | z
          · rw [f1] at z; cases z
          · rw [f3] at z; cases z
      exact p2 _ F2 H2 ((own_at R (st1.trans st2) g1 f2 (st2.sH _ _ f3) (f4.mono st2.sF)).set j dv2) (((Agr.refl _ _).set (by simp [wrS])).set (by simp [wrS]))
    | .none, p => exact p.elim
    | .bool _, p => exact p.elim
    | .int _, p => exact p.elim
    | .str _, p => exact p.elim
    | .tuple _, p => exact p.elim
    | .dict _, p => exact p.elim
theorem ss_parP {i j : Nat} (h : PS X st (tPar i j (tCons te1 (tCons te2 tNil)))) (h1 : ∀ σ H Q, sE X W C a σ H Q → te1 σ H Q) (h2 : ∀ σ H Q, sL X W C b σ H Q → te2 σ H Q) : PS X st (sS X W C (.par i j false true a b)) := psImp h fun D σ H ⟨F0, B, ρ, F, R, p⟩ => by
  rw [evS] at p
  refine h1 _ _ _ ⟨F0, B, ρ, F, R, fl_of R p fun d v F1 H1 _ st1 dv1 p1 => ?_⟩
  have R1 := R.step st1
  rw [show setO false d = .ok (.val d) from rfl, Rs.fl_ok] at p1
  refine h2 _ _ _ ⟨F0, B, ρ, F1, R1, ?_⟩
  cases e : ev C b ρ with
  | exc c => rw [e] at p1; exact fun A F' H' mm st => p1 A σ F' H' mm (R1.st.trans st)
  | bad => rw [e] at p1; exact p1
  | ok d2 =>
    rw [e] at p1
    match d2, p1 with
    | .list ds, p1 =>
      intro w H2 n
      obtain ⟨F', R'⟩ := own_put (i := j) (F1 := F) (H1 := H2) (R1.set i dv1) n
      exact ⟨v, w, rfl, p1 _ F' H2 R' (((Agr.refl _ _).set (by simp [wrS])).set (by simp [wrS]))⟩
    | .none, p1 => exact p1.elim
    | .bool _, p1 => exact p1.elim
    | .int _, p1 => exact p1.elim
    | .str _, p1 => exact p1.elim
    | .tuple _, p1 => exact p1.elim
    | .dict _, p1 => exact p1.elim
theorem sw_np {v : Expr} {t : Option Expr} {l : Nat} {env : Env} (h : nCp v = true) : swapsWith v t l env = pure false := by
  cases v <;> first | rfl | cases h
theorem sw_tup {v : Expr} {ts : List Expr} {k : Nat} {p : Pos} {l : Nat} {env : Env} : swapsWith v (some (.Tuple ts k p)) l env = pure false := by
  cases v <;> rfl
theorem sw_cell {elt : Expr} {gs : List Comprehension} {scope : Scope} {ps py : Pos} {y : Str} {l : Nat} {env : Env} (hy : env.kindOf y = some .cell) : swapsWith (.ListComp elt gs scope ps) (some (.Name y py)) l env = pure false := by
  show (pure (env.blockKind == .function && env.kindOf y == some .local && py.line == ps.line && !(scope.names.any fun (n, k) => n == y && (k == .local || k == .cell))) : Sem Bool) = _
  rw [hy]
  rw [show ((some NameKind.cell == some NameKind.local) = false) from rfl, Bool.and_false, Bool.false_and, Bool.false_and]
theorem ss_none {ts : List Expr} {v : Expr} {k : Nat} {p : Pos} {env : Env} (h : isTup v = false) : swappedStores [.Tuple ts k p] v env = pure none := by
  cases v <;> first | rfl | cases h
theorem ss_folded {ts vs : List Expr} {k k2 : Nat} {p p2 : Pos} {env : Env} (h : vs.all (foldedForSure 8) = true) : swappedStores [.Tuple ts k p] (.Tuple vs k2 p2) env = pure none := by
  unfold swappedStores
  simp only [h, if_true]
  split
  · rfl
  · split
    · rfl
    · split <;> rfl
theorem ss_cell {ts vs : List Expr} {k k2 : Nat} {p p2 : Pos} {env : Env} (h : ∃ y q, Expr.Name y q ∈ ts ∧ env.kindOf y = some .cell) : swappedStores [.Tuple ts k p] (.Tuple vs k2 p2) env = pure none := by
  obtain ⟨y, q, hm, hk⟩ := h
  have hl : ∀ (l : Nat) (us : List Expr), Expr.Name y q ∈ us → (us.filterMap fun
    | .Name id pos => if env.kindOf id == some .local && pos.line == l then some id else none
    | _ => none).length < us.length := by
    intro l us
    induction us with
    | nil => intro h; cases h
    | cons u us ih =>
      intro h
      rcases List.mem_cons.1 h with e | e
      · subst e
        rw [List.filterMap_cons]
        simp only [hk, show ((some NameKind.cell == some NameKind.local) = false) from rfl, Bool.false_and, Bool.false_eq_true, if_false]
        exact Nat.lt_succ_of_le (List.length_filterMap_le _ _)
      · have := ih e
        rw [List.filterMap_cons]
        split
        · exact Nat.lt_succ_of_lt this
        · exact Nat.succ_lt_succ this
  unfold swappedStores
  simp only
  split
  · rfl
  · split
    · rfl
    · rw [if_pos (by
        have := hl ((ts.head?.map (·.pos.line)).getD 0) ts hm
        simp only [Bool.or_eq_true, bne_iff_ne]
        exact .inl (Nat.ne_of_lt this))]
end
/-- the block's own facts, for statements -/
structure Gs (X : Cx) (W : WX) (C : Nat → List D → Rs D) (T : Tab) (N : List Str) (sc : Scope) : Prop extends Gd X W C T N none sc where
  pas : PassesOwn (model X.prog X.w) X.A X.env X.xe
  kind : X.env.scope.kind = .function
  exc : ∀ x ∈ T.exs, ∃ A, X.mg x = some (.ref A) ∧ ∀ Y : Cx, Y.K = X.K → Y.mg = X.mg → Gl Y x → ∀ (m : Str) (j : Nat) (p p2 pos : Pos), PMk Y (.Call (.Name x p) [.Constant (.str m) j p2] [] pos) (fun _ H Q => Q (.ref A) none H)
  stk : X.stack = X.env :: X.outer
  frm : X.env.frame = some X.env.locals
  tre : ∀ x, T.tre = some x → ∃ c, X.mg x = some c ∧ TreC X.K X.mg c
  wrd : ∀ x, T.wrd = some x → WordC X x
theorem Gs.tr {X : Cx} {W W' : WX} {C : Nat → List D → Rs D} {T : Tab} {N : List Str} {sc : Scope} (G : Gs X W C T N sc) {pn : List (Addr × Obj)} {xe : Value → Shared → Prop} (tk : Takes (X.tr pn xe) W') (ps : PassesOwn (model X.prog X.w) X.A X.env xe) : Gs (X.tr pn xe) W' C T N sc where
  hN := G.hN
  nd := G.nd
  hsc := G.hsc
  calm := G.calm
  un := G.un
  tk := tk
  fn := G.fn
  bl := G.bl
  fnc := fun f x h => ⟨(G.fnc f x h).ex⟩
  fni := fun f x h => ⟨(G.fni f x h).ex⟩
  glc := G.glc
  cel := fun x h => ⟨(G.cel x h).ex⟩
  dkc := fun f x j h => ⟨(G.dkc f x j h).ex⟩
  pas := ps
  kind := G.kind
  exc := G.exc
  stk := G.stk
  frm := G.frm
  tre := G.tre
  wrd := fun x h => ⟨(G.wrd x h).ex⟩
def chkSs (p : S → Stmt → Bool) : List S → List Stmt → Bool
  | [], [] => true
  | m :: ms, x :: xs => p m x && chkSs p ms xs
  | _, _ => false
def swB (sc : Scope) (y : Str) : Expr → Bool
  | .ListComp _ _ _ _ => cellB sc y
  | v => nCp v
def lcB (sc scope : Scope) (y : Str) (py ps : Pos) : Bool := isLoc sc y && (py.line == ps.line) && !(scope.names.any fun (n, k) => n == y && (k == .local || k == .cell))
def cellT (sc : Scope) : Expr → Bool
  | .Name y _ => cellB sc y
  | _ => false
def unpB (sc : Scope) (ts : List Expr) : Expr → Bool
  | .Tuple vs _ _ => vs.all (foldedForSure 8) || ts.any (cellT sc)
  | _ => true
def parB (sc : Scope) (x y : Str) (px py : Pos) (a b : Expr) : Bool := isLoc sc x && isLoc sc y && !(x == y) && (py.line == px.line) && nst a && nst b && !([a, b].all (foldedForSure 8)) && !([a, b].all (constantsAlone 8))
def chkS (T : Tab) (N : List Str) (sc : Scope) : Nat → S → Stmt → Bool
  | 0, _, _ => false
  | n + 1, m, st => match m, st with
    | .frz i s, st => chkS T N sc n s st
    | .set i (.comp elt tg k src test own), .Assign [.Name y py] (.ListComp elt' [⟨tge, iter, ifs, 0⟩] scope ps') _ => nthB N i y && (if lcB sc scope y py ps' then chkC T N (chk T N n) none sc elt tg k src test own elt' tge iter ifs scope else cellB sc y && chkC T N (chk T N n) none sc elt tg k src test own elt' tge iter ifs scope)
    | .own i (.comp elt tg k src test own), .Assign [.Name y py] (.ListComp elt' [⟨tge, iter, ifs, 0⟩] scope ps') _ => nthB N i y && (if lcB sc scope y py ps' then chkC T N (chk T N n) none sc elt tg k src test own elt' tge iter ifs scope else cellB sc y && chkC T N (chk T N n) none sc elt tg k src test own elt' tge iter ifs scope)
    | .own i (.lst es), .Assign [.Name y _] (.List xs _) _ => nthB N i y && locB none sc y && chkL (chk T N n none sc false) es xs
    | .own i (.bin .add a b), .Assign [.Name y _] (.BinOp a' o b' _) _ => nthB N i y && locB none sc y && decide (o = .Add) && chk T N n none sc false a a' && chk T N n none sc false b b'
    | .set i e, .Assign [.Name y _] v _ => nthB N i y && locB none sc y && nCp v && chk T N n none sc false e v
    | .par i j false false a b, .Assign [.Tuple [.Name x px, .Name y py] _ _] (.Tuple [a', b'] _ _) _ => nthB N i x && nthB N j y && parB sc x y px py a' b' && chk T N n none sc false a a' && chk T N n none sc false b b'
    | .par i j true false (.lst es) b, .Assign [.Tuple [.Name x px, .Name y py] _ _] (.Tuple [.List xs q, b'] _ _) _ => nthB N i x && nthB N j y && parB sc x y px py (.List xs q) b' && chkL (chk T N n none sc false) es xs && chk T N n none sc false b b'
    | .par i j false true a (.lst es), .Assign [.Tuple [.Name x px, .Name y py] _ _] (.Tuple [a', .List xs q] _ _) _ => nthB N i x && nthB N j y && parB sc x y px py a' (.List xs q) && chk T N n none sc false a a' && chkL (chk T N n none sc false) es xs
    | .unp tg e, .Assign [.Tuple ts k p] v _ => chkG N none sc 9 tg (.Tuple ts k p) && unpB sc ts v && chk T N n none sc false e v
    | .app i e, .Expr (.Call (.Attribute (.Name y _) f ap) [x] [] p) _ => (f == ("append" : Str)) && nthB N i y && visB sc y && nmB y && (ap.endLine == p.line) && nst x && chk T N n none sc false e x
    | .ext i e, .Expr (.Call (.Attribute (.Name y _) f ap) [x] [] p) _ => (f == ("extend" : Str)) && nthB N i y && visB sc y && nmB y && (ap.endLine == p.line) && nst x && chk T N n none sc false e x
    | .rows f i es, .Expr (.Call (.Name y _) xs [] _) _ => glB sc y && nmB y && (match T.ios.lookup f with | some z => z == y | none => false) && (match chkX (chk T N n none sc false) es xs with | some (.Name u _) => nthB N i u && visB sc u && nmB u | _ => false)
    | .loop tg k src body _, .For tge iter xs [] _ => nSet iter && chkI T sc (chk T N n none sc false) tge k src iter && chkG N none sc 9 tg tge && chkSs (chkS T N sc n) body xs
    | .whl _ c body _, .While x xs [] _ => chk T N n none sc true c x && chkSs (chkS T N sc n) body xs
    | .iff c ms ns, .If x xs ys _ => chk T N n none sc true c x && chkSs (chkS T N sc n) ms xs && chkSs (chkS T N sc n) ns ys
    | .ret e, .Return (some x) _ => chk T N n none sc false e x
    | .raise cn, .Raise (some (.Call (.Name y _) [.Constant (.str _) _ _] [] _)) none _ => (cn == y) && glB sc y && T.exs.contains y
    | .dct i e, .Assign [.Name y _] (.Call (.Name f _) [x] [] _) _ => nthB N i y && locB none sc y && (f == ("dict" : Str)) && bis T sc "dict" && nst x && chk T N n none sc false e x
    | .tryw true ms, .Try xs [.ExceptHandler (some (.Name x _)) (some y) [.Return (some (.Call (.Name z _) [.Name u _] [] _)) _] _] [] [] _ => (T.tre == some x) && glB sc x && nmB x && (T.wrd == some z) && glB sc z && nmB z && (y == u) && isLoc sc y && nmB y && N.contains y && chkSs (chkS T N sc n) ms xs
    | .tryw false ms, .Try xs [.ExceptHandler (some (.Name x _)) none [.Return (some (.Constant .none _ _)) _] _] [] [] _ => (T.tre == some x) && glB sc x && nmB x && chkSs (chkS T N sc n) ms xs
    | .expr e, .Expr x _ => nCp x && chk T N n none sc false e x
    | _, _ => false
end Pu
namespace Pu
open PySem PySem.Spec PyProof.Rows L2
def starB : Expr → Bool
  | .Starred .. => true
  | _ => false
theorem noStar {a b : Expr} (ha : nst a = true) (hb : nst b = true) : [a, b].any starB = false := by
  have h1 : ∀ {e : Expr}, nst e = true → starB e = false := fun {e} h => by cases e <;> first | rfl | cases h
  rw [List.any_cons, List.any_cons, h1 ha, h1 hb]; rfl
theorem sw_par {x y : Str} {px py pt pt2 : Pos} {kt k2 : Nat} {a b : Expr} {env : Env} (hx : env.kindOf x = some .local) (hy : env.kindOf y = some .local) (hne : (x == y) = false) (hl : (py.line == px.line) = true) (ha : nst a = true) (hb : nst b = true)
    (hf : [a, b].all (foldedForSure 8) = false) (hc : [a, b].all (constantsAlone 8) = false) (hk : env.blockKind = .function) : swappedStores [.Tuple [.Name x px, .Name y py] kt pt] (.Tuple [a, b] k2 pt2) env = pure (some [x, y]) := by
  have hs := noStar ha hb
  have hxy : x ≠ y := by simpa using hne
  have e2 : [x, y].eraseDups.length = 2 := by
    simp [List.eraseDups_cons, List.filter, hne, Ne.symm hxy, hxy, beq_eq_false_iff_ne.mpr (Ne.symm hxy)]
  have e0 : (fun (e : Expr) => match e with | .Starred .. => true | _ => false) = starB := rfl
  have hlt : py.line = px.line := eq_of_beq hl
  unfold swappedStores
  simp only [hk, hf, hc, List.length_cons, List.length_nil]
  show (if (!((2 : Nat) == 2 || (2 : Nat) == 3) || (2 : Nat) != 2 || ScopeKind.function != ScopeKind.function) = true then _ else _) = _
  rw [if_neg (by decide)]
  show (if [a, b].any starB = true then _ else _) = _
  rw [hs, if_neg Bool.false_ne_true]
  simp only [List.filterMap_cons, List.filterMap_nil, hx, hy, List.head?_cons, Option.map_some, Option.getD_some, Expr.pos, hlt, beq_self_eq_true, Bool.and_true, Bool.and_self, if_true, e2, List.length_cons, List.length_nil]
  rfl
end Pu
namespace Pu
open PySem PySem.Spec PyProof.Rows L2
section
variable {X : Cx} {W : WX} {C : Nat → List D → Rs D} {T : Tab} {N : List Str} {sc : Scope} {a b c : E} {x y z : Expr} {pos : Pos} {st : Stmt} {te te1 te2 : TE}
theorem chkSs_ok {p : S → Stmt → Bool} (hp : ∀ m x, p m x = true → PS X x (sS X W C m)) : ∀ {ms : List S} {xs : List Stmt}, chkSs p ms xs = true → PSs X xs (sSs X W C ms)
  | [], [], _ => ss_nil
  | [], _ :: _, h => by cases h
  | _ :: _, [], h => by cases h
  | m :: ms, x :: xs, h => by
    unfold chkSs at h
    obtain ⟨h1, h2⟩ := and3 h
    exact ss_cons (hp _ _ h1) (chkSs_ok hp h2)
theorem isLoc1 {x : Str} (h : isLoc sc x = true) : sc.names.lookup x = some .local := by
  unfold isLoc at h
  split at h
  · assumption
  · cases h
theorem cellB1 {x : Str} (h : cellB sc x = true) : sc.names.lookup x = some .cell := by
  unfold cellB at h
  split at h
  · assumption
  · cases h
theorem Gs.kof (G : Gs X W C T N sc) (x : Str) : X.env.kindOf x = sc.names.lookup x := by
  show X.env.scope.names.lookup x = _
  rw [G.hsc]
theorem Gs.fn1 (G : Gs X W C T N sc) (x : Str) : X.fn x = true := G.fn x (.inl rfl)
theorem Gs.nd1 (G : Gs X W C T N sc) : X.N.Nodup := by rw [G.hN]; exact G.nd
theorem Gs.bk (G : Gs X W C T N sc) : X.env.blockKind = .function := by unfold Env.blockKind; rw [G.kind]; rfl
theorem set_lc {i : Nat} {yn : Str} {py ps' ps : Pos} {elt : E} {tg : Tg} {k : Ik} {src test : List E} {own : List Nat} {elt' tge iter : Expr} {ifs : List Expr} {scope : Scope} (G : Gs X W C T N sc) {n : Nat}
    (h1 : nthB N i yn = true) (h : (if lcB sc scope yn py ps' then chkC T N (chk T N n) none sc elt tg k src test own elt' tge iter ifs scope else cellB sc yn && chkC T N (chk T N n) none sc elt tg k src test own elt' tge iter ifs scope) = true) :
    ∃ te, PS X (.Assign [.Name yn py] (.ListComp elt' [⟨tge, iter, ifs, 0⟩] scope ps') ps) (tAsg te (gName i)) ∧ ∀ σ H Q, sL X W C (.comp elt tg k src test own) σ H Q → te σ H Q := by
  have hi : X.N[i]? = some yn := by rw [G.hN]; exact nthB1 h1
  have fin : chkC T N (chk T N n) none sc elt tg k src test own elt' tge iter ifs scope = true := by
    split at h
    · exact h
    · exact (and3 h).2
  obtain ⟨q1, q2, q3, q4, q5, q6, q7⟩ := chkC_ok G.toGd (fun t m x G h => chk_ok n t m x G h) fin
  by_cases hl : lcB sc scope yn py ps' = true
  · obtain ⟨hl, l3⟩ := and3 hl
    obtain ⟨l1, l2⟩ := and3 hl
    have hy : X.env.scope.names.lookup yn = some .local := by rw [G.hsc]; exact isLoc1 l1
    refine ⟨_, ps_setLc G.calm G.nd1 hi hy (sw_true G.kind hy l2 (by simpa using l3)) q1 q2 q3 q4 q5 q6, ?_⟩
    have q := lc_read (X := X) (W := W) (C := C) (e := elt) (tg := tg) (k := k) (src := src) (test := test) (own := ownL N own) q7
    rw [own_snd] at q ⊢
    exact q
  · rw [if_neg hl] at h
    have hc := cellB1 (and3 h).1
    have q := sl_comp (W := W) (C := C) (elt := elt') (tge := tge) (iter := iter) (ifs := ifs) (e := elt) (tg := tg) (k := k) (src := src) (test := test) (pos := ps') G.calm G.nd1 q1 q2 q3 q4 q5 q6 q7
    rw [own_snd] at q
    exact ⟨_, ps_set G.nd1 hi (.inr (by rw [G.hsc]; exact hc)) q (sw_cell (by rw [G.kof]; exact hc)) (.inl (G.fn1 _)), fun σ H Q h => h⟩
theorem sws {t v : Expr} {l : Nat} {env : Env} (h : swapsWith v (some t) l env = pure false) : swapsWithSole [t] v l env = pure false := by
  unfold swapsWithSole
  exact h
theorem notB {b : Bool} (h : (!b) = true) : b = false := by cases b <;> first | rfl | cases h
theorem parB_n {xn yn : Str} {px py : Pos} {u v : Expr} (h : parB sc xn yn px py u v = true) : nst u = true ∧ nst v = true := by
  unfold parB at h
  obtain ⟨h, _⟩ := and3 h
  obtain ⟨h, _⟩ := and3 h
  obtain ⟨h, z2⟩ := and3 h
  exact ⟨(and3 h).2, z2⟩
theorem Gs.par (G : Gs X W C T N sc) {i j : Nat} {xn yn : Str} {px py pt pt2 : Pos} {kt k2 : Nat} {u v : Expr} {ta : TA} (h1 : nthB N i xn = true) (h2 : nthB N j yn = true) (h : parB sc xn yn px py u v = true) (ha : PA X [u, v] ta) :
    PS X (.Assign [.Tuple [.Name xn px, .Name yn py] kt pt] (.Tuple [u, v] k2 pt2) pos) (tPar i j ta) := by
  unfold parB at h
  obtain ⟨h, p8⟩ := and3 h
  obtain ⟨h, p7⟩ := and3 h
  obtain ⟨h, p6⟩ := and3 h
  obtain ⟨h, p5⟩ := and3 h
  obtain ⟨h, p4⟩ := and3 h
  obtain ⟨h, p3⟩ := and3 h
  obtain ⟨p1, p2⟩ := and3 h
  have hx := isLoc1 p1
  have hy := isLoc1 p2
  have hne : (xn == yn) = false := by simpa using p3
  have hxy : xn ≠ yn := by simpa using hne
  have hi : X.N[i]? = some xn := by rw [G.hN]; exact nthB1 h1
  have hj : X.N[j]? = some yn := by rw [G.hN]; exact nthB1 h2
  exact ps_par G.calm G.nd1 hi hj (fun e => hxy (by subst e; rw [hi] at hj; exact Option.some.inj hj)) (by rw [G.hsc]; exact hx) (by rw [G.hsc]; exact hy) ha
    (sw_par (by rw [G.kof]; exact hx) (by rw [G.kof]; exact hy) hne p4 p5 p6 (notB p7) (notB p8) G.bk) (sws sw_tup)
end
theorem chkS_ok {C : Nat → List D → Rs D} {T : Tab} {N : List Str} {sc : Scope} : ∀ (n : Nat) {X : Cx} {W : WX} (G : Gs X W C T N sc) (m : S) (x : Stmt), chkS T N sc n m x = true → PS X x (sS X W C m)
  | 0, _, _, _, _, _, h => by cases h
  | n + 1, X, W, G, m, x, h => by
    have hE : ∀ e x, chk T N n none sc false e x = true → PE X x (sE X W C e) := fun e x h => chk_ok n false e x G.toGd h
    have hT : ∀ e x, chk T N n none sc true e x = true → PT X x (sT X W C e) := fun e x h => chk_ok n true e x G.toGd h
    have hS : ∀ m x, chkS T N sc n m x = true → PS X x (sS X W C m) := chkS_ok n G
    have hnd := G.nd1
    have hN : ∀ {i y}, nthB N i y = true → X.N[i]? = some y := fun h => by rw [G.hN]; exact nthB1 h
    unfold chkS at h
    split at h
    · exact ss_frz (hS _ _ h)
    · obtain ⟨h1, h2⟩ := and3 h
      obtain ⟨te, k1, k2⟩ := set_lc (ps := ‹Pos›) G h1 h2
      exact ss_set k1 fun σ H Q h => k2 σ H Q (sE_to comp_lists σ H Q h)
    · obtain ⟨h1, h2⟩ := and3 h
      obtain ⟨te, k1, k2⟩ := set_lc (ps := ‹Pos›) G h1 h2
      exact ss_own k1 k2
    · obtain ⟨h, h3⟩ := and3 h
      obtain ⟨h1, h2⟩ := and3 h
      exact ss_own (ps_set hnd (hN h1) (G.loc h2).1 (sl_lst (chkL_ok hE h3).1) (sw_np rfl) (G.loc h2).2) fun σ H Q h => h
    · obtain ⟨h, h5⟩ := and3 h
      obtain ⟨h, h4⟩ := and3 h
      obtain ⟨h, h3⟩ := and3 h
      obtain ⟨h1, h2⟩ := and3 h
      have e := of_decide_eq_true h3
      subst e
      exact ss_own (ps_set hnd (hN h1) (G.loc h2).1 (sl_add (hE _ _ h4) (hE _ _ h5)) (sw_np rfl) (G.loc h2).2) fun σ H Q h => h
    · obtain ⟨h, h4⟩ := and3 h
      obtain ⟨h, h3⟩ := and3 h
      obtain ⟨h1, h2⟩ := and3 h
      exact ss_set (ps_set hnd (hN h1) (G.loc h2).1 (hE _ _ h4) (sw_np h3) (G.loc h2).2) fun σ H Q h => h
    · obtain ⟨h, h5⟩ := and3 h
      obtain ⟨h, h4⟩ := and3 h
      obtain ⟨h, h3⟩ := and3 h
      obtain ⟨h1, h2⟩ := and3 h
      have k := parB_n h3
      exact ss_par (G.par h1 h2 h3 (sa_cons (hE _ _ h4) (sa_cons (hE _ _ h5) sa_nil (star_ns k.2)) (star_ns k.1))) fun σ H Q h => h
    · obtain ⟨h, h5⟩ := and3 h
      obtain ⟨h, h4⟩ := and3 h
      obtain ⟨h, h3⟩ := and3 h
      obtain ⟨h1, h2⟩ := and3 h
      have k := parB_n h3
      exact ss_parO (G.par h1 h2 h3 (pa_cons (sl_lst (chkL_ok hE h4).1) (pa_cons (hE _ _ h5) pa_nil (star_ns k.2)) (star_ns k.1))) (fun σ H Q h => h) (fun σ H Q h => h)
    · obtain ⟨h, h5⟩ := and3 h
      obtain ⟨h, h4⟩ := and3 h
      obtain ⟨h, h3⟩ := and3 h
      obtain ⟨h1, h2⟩ := and3 h
      have k := parB_n h3
      exact ss_parP (G.par h1 h2 h3 (pa_cons (hE _ _ h4) (pa_cons (sl_lst (chkL_ok hE h5).1) pa_nil (star_ns k.2)) (star_ns k.1))) (fun σ H Q h => h) (fun σ H Q h => h)
    · rename_i tg e ts k p v ps
      obtain ⟨h, h3⟩ := and3 h
      obtain ⟨h1, h2⟩ := and3 h
      have hw : swappedStores [.Tuple ts k p] v X.env = pure none := by
        unfold unpB at h2
        split at h2
        · rcases Bool.or_eq_true_iff.1 h2 with h2 | h2
          · exact ss_folded h2
          · obtain ⟨u, hu, hc⟩ := List.any_eq_true.1 h2
            unfold cellT at hc
            split at hc
            · exact ss_cell ⟨_, _, hu, by rw [G.kof]; exact cellB1 hc⟩
            · cases hc
        · rename_i hv
          refine ss_none ?_
          cases v <;> first | rfl | exact absurd rfl (hv _ _ _)
      exact ss_unp (ps_asg (hE _ _ h3) (chkG_ok G.toGd _ _ _ h1) (sws sw_tup) hw) (fun σ H Q h => h) (fun v σ H Q h => h)
    · obtain ⟨h, h7⟩ := and3 h
      obtain ⟨h, h6⟩ := and3 h
      obtain ⟨h, h5⟩ := and3 h
      obtain ⟨h, h4⟩ := and3 h
      obtain ⟨h, h3⟩ := and3 h
      obtain ⟨h1, h2⟩ := and3 h
      have e := eq_of_beq h1
      subst e
      obtain ⟨k1, k2, _⟩ := nmB1 h4
      refine ss_app (ps_expr (pe_bm PySem.F.plainAttrs_list PySem.F.slot_list_append PySem.F.type_list_append mt_append (pe_var (hN h2) (G.toGd.vis h3) k1 k2) (pa_cons (hE _ _ h7) pa_nil (star_ns h6)) rfl (by rw [star_ns h6]; rfl) h5 (star_ns h6) rfl) rfl) (fun σ H Q h => h)
    · obtain ⟨h, h7⟩ := and3 h
      obtain ⟨h, h6⟩ := and3 h
      obtain ⟨h, h5⟩ := and3 h
      obtain ⟨h, h4⟩ := and3 h
      obtain ⟨h, h3⟩ := and3 h
      obtain ⟨h1, h2⟩ := and3 h
      have e := eq_of_beq h1
      subst e
      obtain ⟨k1, k2, _⟩ := nmB1 h4
      refine ss_ext (ps_expr (pe_bm PySem.F.plainAttrs_list PySem.F.slot_list_extend PySem.F.type_list_extend mt_extend (pe_var (hN h2) (G.toGd.vis h3) k1 k2) (pa_cons (hE _ _ h7) pa_nil (star_ns h6)) rfl (by rw [star_ns h6]; rfl) h5 (star_ns h6) rfl) rfl) (fun σ H Q h => h)
    · obtain ⟨h, h4⟩ := and3 h
      obtain ⟨h, h3⟩ := and3 h
      obtain ⟨h1, h2⟩ := and3 h
      split at h3
      · rename_i z e
        have e2 := eq_of_beq h3
        subst e2
        split at h4
        · rename_i u pu ex
          obtain ⟨h4, h7⟩ := and3 h4
          obtain ⟨h5, h6⟩ := and3 h4
          obtain ⟨k1, k2, _⟩ := nmB1 h7
          exact ss_rows (G.fni _ _ e) G.tk (G.toGd.gl h1) hE ex (pe_var (hN h5) (G.toGd.vis h6) k1 k2) (nmB1 h2).1
        · cases h4
      · cases h3
    · obtain ⟨h, h4⟩ := and3 h
      obtain ⟨h, h3⟩ := and3 h
      obtain ⟨h1, h2⟩ := and3 h
      exact ss_loop G.pas G.calm (chkI_ok G.toGd hE h2) (chkG_ok G.toGd _ _ _ h3) (chkSs_ok hS h4) (hset h1)
    · obtain ⟨h1, h2⟩ := and3 h
      exact ss_whl G.pas (hT _ _ h1) (chkSs_ok hS h2)
    · obtain ⟨h, h3⟩ := and3 h
      obtain ⟨h1, h2⟩ := and3 h
      exact ss_iff (hT _ _ h1) (chkSs_ok hS h2) (chkSs_ok hS h3)
    · exact ss_ret (hE _ _ h)
    · obtain ⟨h, h3⟩ := and3 h
      obtain ⟨h1, h2⟩ := and3 h
      have e := eq_of_beq h1
      subst e
      obtain ⟨A, k1, k2⟩ := G.exc _ (by simpa using h3)
      exact ss_raise G.calm G.tk (k2 X rfl rfl (G.toGd.gl h2) _ _ _ _ _) k1
    · obtain ⟨h, h6⟩ := and3 h
      obtain ⟨h, h5⟩ := and3 h
      obtain ⟨h, h4⟩ := and3 h
      obtain ⟨h, h3⟩ := and3 h
      obtain ⟨h1, h2⟩ := and3 h
      have e := eq_of_beq h3
      subst e
      obtain ⟨b1, b2, _⟩ := G.toGd.bis h4
      have hu := G.un
      exact ss_dct (ps_set hnd (hN h1) (G.loc h2).1 (pe_dct (by omega) G.calm b1 b2 (hE _ _ h6) (star_ns h5)) (sw_np rfl) (G.loc h2).2) fun σ H Q h => h
    · obtain ⟨h, h11⟩ := and3 h
      obtain ⟨h, h10⟩ := and3 h
      obtain ⟨h, h9⟩ := and3 h
      obtain ⟨h, h8⟩ := and3 h
      obtain ⟨h, h7⟩ := and3 h
      obtain ⟨h, h6⟩ := and3 h
      obtain ⟨h, h5⟩ := and3 h
      obtain ⟨h, h4⟩ := and3 h
      obtain ⟨h, h3⟩ := and3 h
      obtain ⟨h1, h2⟩ := and3 h
      have e := eq_of_beq h7
      subst e
      obtain ⟨c, k1, k2⟩ := G.tre _ (eq_of_beq h1)
      obtain ⟨i, hi⟩ := List.getElem?_of_mem (List.contains_iff_mem.mp h10)
      exact ss_tryw G.stk G.frm hnd (by rw [G.hN]; exact hi) (by rw [G.kof]; exact isLoc1 h8) ⟨G.toGd.gl h2, (nmB1 h3).1, .inl k1⟩ G.tk k2 (G.wrd _ (eq_of_beq h4)) (G.toGd.gl h5) (nmB1 h6).1 (nmB1 h9).1 (nmB1 h9).2.1 fun W' pn xe tk ps => chkSs_ok (fun m x h => chkS_ok n (G.tr tk ps) m x h) h11
    · obtain ⟨h, h4⟩ := and3 h
      obtain ⟨h, h3⟩ := and3 h
      obtain ⟨h1, h2⟩ := and3 h
      obtain ⟨c, k1, k2⟩ := G.tre _ (eq_of_beq h1)
      exact ss_tryn G.stk G.frm ⟨G.toGd.gl h2, (nmB1 h3).1, .inl k1⟩ G.tk k2 fun W' pn xe tk ps => chkSs_ok (fun m x h => chkS_ok n (G.tr tk ps) m x h) h4
    · obtain ⟨h1, h2⟩ := and3 h
      exact ss_expr (hE _ _ h2) (sw_np h1)
    · cases h
end Pu
/-! ### defs -/
namespace Pu
open PySem PySem.Spec PyProof.Rows L2
def fscB (N P : List Str) (sc : Scope) : Bool :=
  (match sc.kind with | .function => true | _ => false) && !sc.isCoroutine && !sc.isGenerator && decide N.Nodup && decide (N.take P.length = P) && P.all (fun x => isLoc sc x || cellB sc x) && sc.names.all (fun y => match y.2 with | .free => false | _ => true)
theorem fsc_ok {N P : List Str} {sc : Scope} (h : fscB N P sc = true) : FnScope N P sc := by
  unfold fscB at h
  obtain ⟨h, h7⟩ := and3 h
  obtain ⟨h, h6⟩ := and3 h
  obtain ⟨h, h5⟩ := and3 h
  obtain ⟨h, h4⟩ := and3 h
  obtain ⟨h, h3⟩ := and3 h
  obtain ⟨h1, h2⟩ := and3 h
  refine ⟨?_, notB h2, notB h3, of_decide_eq_true h4, of_decide_eq_true h5, fun x hx => ?_, fun y hy e => ?_⟩
  · split at h1
    · assumption
    · cases h1
  · have q := List.all_eq_true.mp h6 x hx
    rw [Bool.or_eq_true] at q
    rcases q with q | q
    · exact .inl (isLoc1 q)
    · exact .inr (cellB1 q)
  · have q := List.all_eq_true.mp h7 y hy
    rw [e] at q
    cases q
/-- what stands around a def's body -/
structure Ar (P : Program) (w : World) (K : PySem.W.Frag) (mg : Str → Option Value) (base : Heap) (T : Tab) (C : Nat → List D → Rs D) (k : Nat) : Prop where
  bl : ∀ x ∈ T.bl, mg x = none
  fnc : ∀ f x, T.fns.lookup f = some x → ∃ fa fd ps, FnOk P w K mg base (L2.CX P w) k fa fd ps (spD K mg (C f)) ∧ mg x = some (.ref fa) ∧ PySem.W.keepIn K (.ref fa) = true ∧ Binds K fd ps []
  fni : ∀ f x, T.ios.lookup f = some x → ∃ fa fd ps, FnOk P w K mg base (L2.CX P w) k fa fd ps (spI K (C f)) ∧ mg x = some (.ref fa) ∧ PySem.W.keepIn K (.ref fa) = true ∧ Binds K fd ps []
  glc : ∀ x d, T.gls.lookup x = some d → ∃ v u, mg x = some u ∧ RelV v u ∧ ∀ F, DV K F v d
  cel : ∀ x, T.cel = some x → ∃ fa fd ps, FnOk P w K mg base (L2.CX P w) k fa fd ps (spCell K) ∧ mg x = some (.ref fa) ∧ PySem.W.keepIn K (.ref fa) = true ∧ Binds K fd ps []
  dkc : ∀ f x j, T.dks.lookup f = some (x, j) → ∃ fa fd ps, FnOk P w K mg base (L2.CX P w) k fa fd ps (spK ⟨K, w⟩ mg (C f) j) ∧ mg x = some (.ref fa) ∧ PySem.W.keepIn K (.ref fa) = true ∧ Binds K fd ps []
  tre : ∀ x, T.tre = some x → ∃ c, mg x = some c ∧ TreC K mg c
  wrd : ∀ x, T.wrd = some x → ∃ fa fd ps A1 A2, FnW P w K mg base k fa fd ps A1 A2 ∧ WordF K mg A1 A2 ∧ mg x = some (.ref fa) ∧ PySem.W.keepIn K (.ref fa) = true ∧ Binds K fd ps [] ∧ ps.length = 1
  exc : ∀ x ∈ T.exs, ∃ A, mg x = some (.ref A) ∧ ∀ X : Cx, X.K = K → X.mg = mg → Gl X x → ∀ (m : Str) (j : Nat) (p p2 pos : Pos), PMk X (.Call (.Name x p) [.Constant (.str m) j p2] [] pos) (fun _ H Q => Q (.ref A) none H)
section
variable {P : Program} {w : World} {K : PySem.W.Frag} {mg : Str → Option Value} {base : Heap} {T : Tab} {C : Nat → List D → Rs D} {k : Nat} {N ps : List Str} {nm : Str} {st : Stmt} {f : Addr} {fd : FuncData}
theorem gs_of (a : Ar P w K mg base T C k) (S : FnScope N ps (defScope st)) {cdv : Value} {A : Around} {outer : List Env} {s : Shared} {H : Hp} {E : XK} (hr : Room k (A.deeper (envOfC nm (defScope st) s.heap.objs.size f cdv))) :
    Gs (cxOf (L2.CX P w) P w K mg base N nm (defScope st) f cdv A outer s H E) (fun cls d _ H => E cls d H) C T N (defScope st) where
  hN := rfl
  nd := S.nd
  hsc := rfl
  calm := rfl
  un := by have := hr.un; show (A.deeper _).units + 100 < cLine; omega
  tk := takes_of rfl rfl rfl rfl
  fn := fun _ _ => rfl
  bl := a.bl
  fnc := fun g x h => by
    obtain ⟨fa, fd, ps, h1, h2, h3, h4⟩ := a.fnc g x h
    exact ⟨fa, fd, ps, k, h1, hr, h2, h3, h4⟩
  fni := fun g x h => by
    obtain ⟨fa, fd, ps, h1, h2, h3, h4⟩ := a.fni g x h
    exact ⟨fa, fd, ps, k, h1, hr, h2, h3, h4⟩
  glc := a.glc
  cel := fun x h => by
    obtain ⟨fa, fd, ps, h1, h2, h3, h4⟩ := a.cel x h
    exact ⟨fa, fd, ps, k, h1, hr, h2, h3, h4⟩
  dkc := fun g x j h => by
    obtain ⟨fa, fd, ps, h1, h2, h3, h4⟩ := a.dkc g x j h
    exact ⟨fa, fd, ps, k, h1, hr, h2, h3, h4⟩
  pas := passes_of rfl
  kind := S.kind
  exc := a.exc
  stk := rfl
  frm := rfl
  tre := a.tre
  wrd := fun x h => by
    obtain ⟨fa, fd, ps, A1, A2, h1, h2, h3, h4, h5, h6⟩ := a.wrd x h
    exact ⟨fa, fd, ps, k, A1, A2, h1, h2, hr, h3, h4, h5, h6⟩
theorem start_val {vs : List V} {ds : List D} {F : Hp} (h : DVs K F vs ds) (n : Nat) (H : Hp) (i : Nat) : SlOk ⟨K, w⟩ F H ((vs.map some ++ List.replicate n none : L2.St).getD i none) (getS (ds.map .val ++ List.replicate n .no) i) := by
  have hl := h.length
  unfold getS
  rw [List.getD_eq_getElem?_getD, List.getD_eq_getElem?_getD]
  by_cases hi : i < ds.length
  · rw [List.getElem?_append_left (by simpa [hl] using hi), List.getElem?_append_left (by simpa using hi), List.getElem?_map, List.getElem?_map]
    obtain ⟨v, e1, e2⟩ := h.get (List.getElem?_eq_getElem hi)
    rw [e1, List.getElem?_eq_getElem hi]
    exact ⟨v, rfl, e2⟩
  · have : (List.map Sl.val ds ++ List.replicate n Sl.no)[i]?.getD .no = .no := by
      rw [List.getElem?_append_right (by simpa using Nat.le_of_not_lt hi), List.getElem?_replicate]
      split <;> rfl
    rw [this]
    trivial
theorem start_no {ds : List D} {n i : Nat} {es : List D} : getS (ds.map .val ++ List.replicate n .no) i ≠ .own es := by
  intro h
  unfold getS at h
  rw [List.getD_eq_getElem?_getD] at h
  by_cases hi : i < ds.length
  · rw [List.getElem?_append_left (by simpa using hi), List.getElem?_map, List.getElem?_eq_getElem hi] at h
    cases h
  · rw [List.getElem?_append_right (by simpa using Nat.le_of_not_lt hi), List.getElem?_replicate] at h
    split at h <;> cases h
theorem fn_step (a : Ar P w K mg base T C k) (F : L2.Fun K nm nm st f fd) (d : Fd) {n : Nat} (hs : fscB N ps (defScope st) = true) (hb : chkSs (chkS T N (defScope st) n) d.body (defBody st) = true) (hp : ps.length = d.np) (hn : N.length = d.nn) :
    FnOk P w K mg base (L2.CX P w) (k + 1) f fd ps (spD K mg (runB C d)) := by
  have S := fsc_ok hs
  refine L2.Fun.okX F S (fun vs H Q E ⟨F', ds, _, dv, p⟩ => ?_) (fun cdv A outer s H vs Q E hr ⟨F', ds, sF, dv, p⟩ => ?_)
  · rw [dv.length]
    unfold runB at p
    cases g : decide (ds.length = d.np) with
    | true => rw [hp]; exact of_decide_eq_true g
    | false => rw [g] at p; exact p.elim
  · unfold runB at p
    cases g : decide (ds.length = d.np) with
    | false => rw [g] at p; exact p.elim
    | true =>
      rw [g] at p
      have g := of_decide_eq_true g
      have G := gs_of (f := f) (nm := nm) (st := st) (N := N) a S hr (H := H) (E := E) (outer := outer)
      refine ⟨_, chkSs_ok (fun m x => chkS_ok n G m x) hb, F', H, ds.map .val ++ List.replicate (d.nn - ds.length) .no, F', ⟨Stp.refl sF, ?_, fun i => ?_, fun i es b e _ => absurd e start_no, fun i j es es2 b _ e _ _ => absurd e start_no⟩, ?_⟩
      · show _ = (L2.start N vs).length
        unfold L2.start
        rw [List.length_append, List.length_append, List.length_map, List.length_map, List.length_replicate, List.length_replicate, dv.length, hn]
      · show SlOk ⟨K, w⟩ F' H ((L2.start N vs).getD i none) _
        unfold L2.start
        rw [dv.length, hn]
        exact start_val dv _ H i
      · have p : Pg mg (fun c d _ H => E c d H) (DV K) (match evSs C d.body (ds.map .val ++ List.replicate (d.nn - ds.length) .no) with | .next _ => .ok .none | .ret x => .ok x | .exc c => .exc c | .bad => .bad) [] F' H Q := p
        show Pf ⟨K, w⟩ mg (fun cls d _ H => E cls d H) F' H _ _ _ (evSs C d.body (ds.map .val ++ List.replicate (d.nn - ds.length) .no))
        cases e : evSs C d.body (ds.map .val ++ List.replicate (d.nn - ds.length) .no) with
        | next ρ => rw [e] at p; exact fun σ F2 H2 R2 _ => p .non F2 H2 R2.st .non
        | ret x => rw [e] at p; exact fun v F2 H2 st2 dv2 => p v F2 H2 st2 dv2
        | exc c => rw [e] at p; exact fun A' σ F2 H2 m2 st2 => p A' F2 H2 m2 st2
        | bad => rw [e] at p; exact p
end
end Pu
namespace Pu
open PySem PySem.Spec PyProof.Rows L2
section
variable {P : Program} {w : World} {K : PySem.W.Frag} {mg : Str → Option Value} {base : Heap} {T : Tab} {C : Nat → List D → Rs D} {k : Nat} {N ps : List Str} {nm : Str} {st : Stmt} {f : Addr} {fd : FuncData}
/-! the look at the script -/
def cellSt (N : List Str) (st : Stmt) : Bool := match defBody st with
  | [.If (.Compare (.Name k _) [o] [.Call (.Name l _) [.Name s _] [] _] _) [.Return (some (.Subscript (.Name s2 _) (.Name k2 _) _)) _] [] _, .Return (some (.Constant (.int z) _ _)) _] =>
    decide (o = .Lt) && (l == ("len" : Str)) && glB (defScope st) l && nmB l && decide (z = 0) && nthB N 0 s && nthB N 0 s2 && nthB N 1 k && nthB N 1 k2 && isLoc (defScope st) s && isLoc (defScope st) k && nmB s && nmB k
  | _ => false
theorem locVis {sc : Scope} {x : Str} (h : isLoc sc x = true) : Vis sc x := .inl (isLoc1 h)
theorem nth_eq {i : Nat} {x y : Str} (h : nthB N i x = true) (g : nthB N i y = true) : x = y := by
  have := (nthB1 h).symm.trans (nthB1 g)
  exact Option.some.inj this
theorem cell_ok (F : L2.Fun K nm nm st f fd) (hs : fscB N ps (defScope st) = true) (hp : ps.length = 2) (hb : cellSt N st = true) (ml : mg "len" = none) : FnOk P w K mg base (L2.CX P w) (k + 1) f fd ps (spCell K) := by
  have S := fsc_ok hs
  refine L2.Fun.okX F S (fun vs H Q E ⟨a, ns, i, e, _⟩ => by rw [e, hp]; rfl) (fun cdv A outer s H vs Q E hr ⟨a, ns, i, e, hS, h0, q⟩ => ?_)
  subst e
  unfold cellSt at hb
  split at hb
  · rename_i eb
    rw [eb]
    obtain ⟨hb, c13⟩ := and3 hb
    obtain ⟨hb, c12⟩ := and3 hb
    obtain ⟨hb, c11⟩ := and3 hb
    obtain ⟨hb, c10⟩ := and3 hb
    obtain ⟨hb, c9⟩ := and3 hb
    obtain ⟨hb, c8⟩ := and3 hb
    obtain ⟨hb, c7⟩ := and3 hb
    obtain ⟨hb, c6⟩ := and3 hb
    obtain ⟨hb, c5⟩ := and3 hb
    obtain ⟨hb, c4⟩ := and3 hb
    obtain ⟨hb, c3⟩ := and3 hb
    obtain ⟨c1, c2⟩ := and3 hb
    have e := of_decide_eq_true c1
    subst e
    have e := eq_of_beq c2
    subst e
    have e := of_decide_eq_true c5
    subst e
    have e := nth_eq c6 c7
    subst e
    have e := nth_eq c8 c9
    subst e
    have hg : (defScope st).names.lookup ("len" : Str) = some .globalImplicit := by
      unfold glB at c3
      split at c3
      · assumption
      · cases c3
    obtain ⟨s1, s2, _⟩ := nmB1 c12
    obtain ⟨k1, k2, _⟩ := nmB1 c13
    let X := cxOf (L2.CX P w) P w K mg base N nm (defScope st) f cdv A outer s H E
    have hN : X.N = N := rfl
    have vs0 : ∀ {p : Pos}, PE X (.Name _ p) (tVar 0) := fun {p} => pe_var (X := X) (pos := p) (nthB1 c6) (locVis c10) s1 s2
    have vs1 : ∀ {p : Pos}, PE X (.Name _ p) (tVar 1) := fun {p} => pe_var (X := X) (pos := p) (nthB1 c8) (locVis c11) k1 k2
    refine ⟨_, pss_cons (ps_if (pt_cmpR op_lt vs1 (pe_callB call_len_seq hg ml PySem.boot_len (pa_cons vs0 pa_nil)) (nomark _)) (pss_one (ps_ret (pe_ix ix_list vs0 vs1 (fun _ _ => rfl)))) pss_nil) (pss_one (ps_ret pe_int)), ?_⟩
    have hl : (ns.map V.int).length = ns.length := List.length_map _
    refine ⟨_, rfl, _, rfl, a, _, rfl, .inl hS, _, _, rfl, rfl, _, rfl, ?_⟩
    refine ite2 (fun c => ?_) (fun c => ?_)
    · have c' : i < (((ns.map V.int).length : Nat) : Int) := of_decide_eq_true c
      rw [hl] at c'
      have hk : i.toNat < ns.length := by omega
      have ek : i = ((i.toNat : Nat) : Int) := by omega
      have q1 : atI (ns.map V.int) ((i.toNat : Nat) : Int) = some (.int ns[i.toNat]) := atI_nat (by rw [List.getElem?_map, List.getElem?_eq_getElem hk] <;> rfl)
      rw [← ek] at q1
      rw [List.getD_eq_getElem?_getD, List.getElem?_eq_getElem hk] at q
      exact ⟨_, rfl, _, rfl, a, _, _, _, rfl, rfl, hS, q1, q⟩
    · have c' : ¬ i < (((ns.map V.int).length : Nat) : Int) := of_decide_eq_false (Bool.eq_false_iff.mpr c)
      rw [hl] at c'
      have hk : ns.length ≤ i.toNat := by omega
      rw [List.getD_eq_getElem?_getD, List.getElem?_eq_none hk] at q
      exact q
  · cases hb
/-! a def that fills a list -/
def ioSt (T : Tab) (N : List Str) (np : Nat) (sc : Scope) (il : Bool) : Option Stmt → Bool
  | some (.Return (some (.Call (.Name t _) [.Name y _] [] _)) _) => !il && (t == ("tuple" : Str)) && bis T sc "tuple" && nthB N (np - 1) y && visB sc y && nmB y
  | some (.Return (some (.Name y _)) _) => il && nthB N (np - 1) y && visB sc y && nmB y
  | _ => false
def er (H : Hp) (l : Addr) : Hp := fun b => if b = l then none else H b
theorem er_ne {H : Hp} {l b : Addr} (h : b ≠ l) : er H l b = H b := if_neg h
theorem er_same {H : Hp} {l : Addr} : er H l l = none := if_pos rfl
theorem start_own {vs : List V} {ds acc : List D} {xs : List V} {l : Addr} {F H : Hp} (h : DVs K F vs ds) (n : Nat) (fl : F l = none) (hl : H l = some (.lst xs)) (hx : DVs K F xs acc) (i : Nat) :
    SlOk ⟨K, w⟩ F H (((vs ++ [V.ref l]).map some ++ List.replicate n none : L2.St).getD i none) (getS (ds.map .val ++ .own acc :: List.replicate n .no) i) := by
  have hlen := h.length
  unfold getS
  have ea : ((vs ++ [V.ref l]).map some ++ List.replicate n none : L2.St) = vs.map some ++ (some (V.ref l) :: List.replicate n none) := by rw [List.map_append, List.append_assoc]; rfl
  rw [ea, List.getD_eq_getElem?_getD, List.getD_eq_getElem?_getD]
  by_cases hi : i < ds.length
  · rw [List.getElem?_append_left (by rw [List.length_map, hlen]; exact hi), List.getElem?_append_left (by rw [List.length_map]; exact hi), List.getElem?_map, List.getElem?_map]
    obtain ⟨v, e1, e2⟩ := h.get (List.getElem?_eq_getElem hi)
    rw [e1, List.getElem?_eq_getElem hi]
    exact ⟨v, rfl, e2⟩
  · rw [List.getElem?_append_right (by rw [List.length_map, hlen]; exact Nat.le_of_not_lt hi), List.getElem?_append_right (by rw [List.length_map]; exact Nat.le_of_not_lt hi), List.length_map, List.length_map, hlen]
    show SlOk ⟨K, w⟩ F H (((some (V.ref l) :: List.replicate n none)[i - ds.length]?).getD none) ((((Sl.own acc) :: List.replicate n Sl.no)[i - ds.length]?).getD .no)
    cases i - ds.length with
    | zero => exact ⟨l, xs, rfl, fl, hl, hx⟩
    | succ j =>
      rw [List.getElem?_cons_succ, List.getElem?_cons_succ, List.getElem?_replicate, List.getElem?_replicate]
      split <;> exact trivial
theorem own_at_start {ds acc es : List D} {n i : Nat} (h : getS (ds.map .val ++ .own acc :: List.replicate n .no) i = .own es) : i = ds.length := by
  unfold getS at h
  rw [List.getD_eq_getElem?_getD] at h
  by_cases hi : i < ds.length
  · rw [List.getElem?_append_left (by simpa using hi), List.getElem?_map, List.getElem?_eq_getElem hi] at h
    cases h
  · rw [List.getElem?_append_right (by simpa using Nat.le_of_not_lt hi), List.length_map] at h
    cases e : i - ds.length with
    | zero => omega
    | succ j =>
      rw [e, List.getElem?_cons_succ, List.getElem?_replicate] at h
      split at h <;> cases h
theorem pss_last {X : Cx} {W : WX} {p : S → Stmt → Bool} (hp : ∀ m x, p m x = true → PS X x (sS X W C m)) {ls : Stmt} {tl : TS} (hl : PS X ls tl) : ∀ {ms : List S} {xs : List Stmt}, chkSs p ms xs = true → PSs X (xs ++ [ls]) (fun D σ H => sSs X W C ms { D with nx := tl D } σ H)
  | [], [], _ => pssImp (pss_one hl) fun D σ H ⟨F0, B, ρ, F, R, p⟩ => by
    rw [evSs] at p
    exact p σ F H R (.refl _ _)
  | [], _ :: _, h => by cases h
  | _ :: _, [], h => by cases h
  | m :: ms, x :: xs, h => by
    unfold chkSs at h
    obtain ⟨h1, h2⟩ := and3 h
    exact pssImp (pss_cons (hp _ _ h1) (pss_last hp hl h2)) fun D σ H ⟨F0, B, ρ, F, R, p⟩ => by
      rw [evSs] at p
      refine ⟨F0, B, ρ, F, R, ?_⟩
      cases e : evS C m ρ with
      | next ρ' => rw [e] at p; exact fun σ' F' H' R' a => ⟨F0, B, ρ', F', R', p.wk a fun i hi => List.mem_append.mpr hi⟩
      | ret d => rw [e] at p; exact p
      | exc c => rw [e] at p; exact p
      | bad => rw [e] at p; exact p
theorem io_step (a : Ar P w K mg base T C k) (F : L2.Fun K nm nm st f fd) (d : Fd) {n : Nat} (hs : fscB N ps (defScope st) = true) (hb : chkSs (chkS T N (defScope st) n) d.body (defBody st).dropLast = true) (hdk : d.dk = none) (hio : ioSt T N d.np (defScope st) d.il (defBody st).getLast? = true) (hp : ps.length = d.np) (hn : N.length = d.nn) (h1 : 1 ≤ d.np) (hw : (wrSs d.body).contains (d.np - 1) = false) :
    FnOk P w K mg base (L2.CX P w) (k + 1) f fd ps (spI K (runI C d)) := by
  have S := fsc_ok hs
  refine L2.Fun.okX F S (fun vs H Q E ⟨F', us, l, xs, ds, acc, zs, il, ev, _, _, _, dv, _, p, _⟩ => ?_) (fun cdv A outer s H vs Q E hr ⟨F', us, l, xs, ds, acc, zs, il, ev, sF, fl, hl, dv, dx, p, q⟩ => ?_)
  · subst ev
    unfold runI at p
    rw [hdk] at p
    obtain ⟨g, _⟩ := guard_ok (show Rs.guard _ _ = _ from p)
    have g := of_decide_eq_true g
    rw [List.length_append, List.length_singleton] at g ⊢
    rw [dv.length, hp, ← g]
  · subst ev
    unfold runI at p
    rw [hdk] at p
    obtain ⟨g, p⟩ := guard_ok (show Rs.guard _ _ = _ from p)
    have g := of_decide_eq_true g
    rw [List.getLast?_concat, List.dropLast_concat] at p
    have p : (match evSs C d.body (ds.map .val ++ .own acc :: List.replicate (d.nn - (ds ++ [PyData.list acc]).length) .no) with
      | .next ρ => (match getS ρ (d.np - 1) with
        | .own zs => .guard (decide (zs.length ≤ line)) (.ok (if d.il then PyData.list zs else PyData.tuple zs))
        | _ => .bad)
      | _ => .bad) = Rs.ok (tlD il zs) := p
    have G := gs_of (f := f) (nm := nm) (st := st) (N := N) a S hr (H := H) (E := E) (outer := outer)
    have hinit := chkSs_ok (fun m x => chkS_ok n G m x) hb
    have hnp : d.np - 1 = ds.length := by rw [List.length_append, List.length_singleton] at g; omega
    cases e : evSs C d.body (ds.map .val ++ .own acc :: List.replicate (d.nn - (ds ++ [PyData.list acc]).length) .no) with
    | ret _ => rw [e] at p; cases p
    | exc _ => rw [e] at p; cases p
    | bad => rw [e] at p; cases p
    | next ρ1 =>
      rw [e] at p
      have p : (match getS ρ1 (d.np - 1) with
        | .own zs => .guard (decide (zs.length ≤ line)) (.ok (if d.il then PyData.list zs else PyData.tuple zs))
        | _ => .bad) = Rs.ok (tlD il zs) := p
      cases eo : getS ρ1 (d.np - 1) with
      | no => rw [eo] at p; cases p
      | val _ => rw [eo] at p; cases p
      | scr _ => rw [eo] at p; cases p
      | dct _ => rw [eo] at p; cases p
      | own zs' =>
        rw [eo] at p
        obtain ⟨gz, p⟩ := guard_ok p
        have gz := of_decide_eq_true gz
        have ez := okInj p
        have ez : d.il = il ∧ zs' = zs := by
          unfold tlD at ez
          cases h1 : d.il <;> cases il <;> rw [h1] at ez <;> simp at ez <;> exact ⟨rfl, ez⟩
        obtain ⟨eil, ez⟩ := ez
        subst ez
        rw [eil] at hio
        -- the last line
        cases el : (defBody st).getLast? with
        | none => rw [el] at hio; cases hio
        | some ls =>
          rw [el] at hio
          have hbody : defBody st = (defBody st).dropLast ++ [ls] := by
            obtain ⟨ys, hy⟩ := List.getLast?_eq_some_iff.mp el
            rw [hy, List.dropLast_concat]
          rw [hbody]
          have hlen : ds.length + 1 ≤ d.nn := by
            have := congrArg List.length S.pre
            rw [List.length_take] at this
            rw [List.length_append, List.length_singleton] at g
            omega
          have fin : ∀ (tl : TS), (∀ (D : Ends) (σ2 : L2.St) (F2 H2 : Hp) (vs2 : List V), σ2[d.np - 1]? = some (some (V.ref l)) → Same F2 H2 → H2 l = some (.lst vs2) → DVs K F2 vs2 zs' → (∀ v F3 H3, Same F2 F3 → Same F3 H3 → Same H2 H3 → H3 l = some (.lst vs2) → (∀ b o, F3 b = some o → F2 b = some o ∨ H2 b = none) → (if il = true then v = .ref l else DV K F3 v (.tuple zs')) → D.rt v H3) → tl D σ2 H2) →
              sSs (cxOf (L2.CX P w) P w K mg base N nm (defScope st) f cdv A outer s H E) (fun cls d _ H => E cls d H) C d.body { nx := tl { nx := fun _ H' => Q .non H', rt := Q }, rt := Q } (L2.start N (us ++ [V.ref l])) H := fun tl htl => by
            refine ⟨F', er H l, ds.map .val ++ .own acc :: List.replicate (d.nn - (ds ++ [PyData.list acc]).length) .no, F', ⟨⟨fun b o z => ?_, Same.refl _, sF, fun _ _ z => .inl z⟩, ?_, fun i => ?_, fun i es b e1 e2 => ?_, fun i j es es2 b hij e1 e2 _ => ?_⟩, ?_⟩
            · by_cases hb : b = l
              · subst hb; rw [er_same] at z; cases z
              · rw [er_ne hb] at z; exact z
            · show _ = (L2.start N (us ++ [V.ref l])).length
              unfold L2.start
              simp only [List.length_append, List.length_map, List.length_replicate, List.length_cons, List.length_nil, dv.length, hn]
              omega
            · show SlOk ⟨K, w⟩ F' H ((L2.start N (us ++ [V.ref l])).getD i none) _
              unfold L2.start
              have eN : N.length - (us ++ [V.ref l]).length = d.nn - (ds ++ [PyData.list acc]).length := by
                rw [hn, List.length_append, List.length_append, List.length_singleton, List.length_singleton, dv.length]
              rw [eN]
              exact start_own dv _ fl hl dx i
            · have hi := own_at_start e1
              subst hi
              have e2 : (L2.start N (us ++ [V.ref l])).getD ds.length none = some (.ref b) := e2
              unfold L2.start at e2
              rw [List.getD_eq_getElem?_getD, List.map_append, List.append_assoc, List.getElem?_append_right (by rw [List.length_map, dv.length]; exact Nat.le_refl _), List.length_map, dv.length, Nat.sub_self] at e2
              have e3 : some (V.ref l) = some (V.ref b) := e2
              cases e3
              exact er_same
            · exact absurd ((own_at_start e1).trans (own_at_start e2).symm) hij
            · show Pf ⟨K, w⟩ mg (fun cls d _ H => E cls d H) F' (er H l) _ _ _ (evSs C d.body (ds.map .val ++ .own acc :: List.replicate (d.nn - (ds ++ [PyData.list acc]).length) .no))
              rw [e]
              intro σ2 F2 H2 R2 agr
              obtain ⟨l2, vs2, k0, k1, k2, k3, k4, k5, _⟩ := R2.getOwn eo
              have ei : (L2.start N (us ++ [V.ref l]))[d.np - 1]? = some (some (V.ref l)) := by
                unfold L2.start
                rw [hnp, List.map_append, List.append_assoc, List.getElem?_append_right (by rw [List.length_map, dv.length]; exact Nat.le_refl _), List.length_map, dv.length, Nat.sub_self]
                rfl
              have ea := agr (d.np - 1) (by simpa using hw)
              have ea : σ2[d.np - 1]? = (L2.start N (us ++ [V.ref l]))[d.np - 1]? := ea
              rw [ei, k0] at ea
              cases ea
              refine htl _ σ2 F2 H2 vs2 k0 R2.st.sub k4 k5 fun v F3 H3 g1 g2 g3 g4 g5 g6 => ?_
              refine q v F3 H3 vs2 ⟨R2.st.sF.trans g1, g2, fun b o hb z => ?_, fun b o z => ?_⟩ g4 (k5.mono g1) g6
              · exact g3 _ _ (R2.st.sH b o (by rw [er_ne hb]; exact z))
              · rcases g5 b o z with w | w
                · rcases R2.st.new b o w with w' | w'
                  · exact .inl w'
                  · by_cases hbl : b = l
                    · subst hbl; rw [k2] at w; cases w
                    · rw [er_ne hbl] at w'; exact .inr w'
                · refine .inr ?_
                  cases hz : H b with
                  | none => rfl
                  | some o2 =>
                    by_cases hbl : b = l
                    · subst hbl; rw [k4] at w; cases w
                    · have z2 := R2.st.sH b o2 (by rw [er_ne hbl]; exact hz)
                      rw [w] at z2; cases z2
          unfold ioSt at hio
          split at hio
          · rename_i tn yn _ _ _ _ els
            cases els
            obtain ⟨hio, i5⟩ := and3 hio
            obtain ⟨hio, i4⟩ := and3 hio
            obtain ⟨hio, i3⟩ := and3 hio
            obtain ⟨hio, i2⟩ := and3 hio
            obtain ⟨i0, i1⟩ := and3 hio
            have et := eq_of_beq i1
            subst et
            obtain ⟨b1, b2, b3, b4⟩ := G.toGd.bis i2
            obtain ⟨y1, y2, _⟩ := nmB1 i5
            have i0 := notB i0
            subst i0
            refine ⟨_, pss_last (fun m x => chkS_ok n G m x) (ps_ret (pe_callTy call_tuple_of b1 b2 PyProof.Rows.boot_tuple (pa_cons (pe_var (i := d.np - 1) (by show N[d.np - 1]? = _; exact nthB1 i3) (G.toGd.vis i4) y1 y2) pa_nil) b4 b3)) hb, fin _ fun D σ2 F2 H2 vs2 k0 hs k4 k5 hq => ?_⟩
            refine ⟨.ref l, k0, l, vs2, rfl, .inl ⟨.of k4, fun r hr => ?_⟩⟩
            have fr : F2 r = none := hs.free hr
            refine hq (.ref r) (upd F2 r (.tup vs2)) (upd H2 r (.tup vs2)) (sameUpd fr) (fun b o z => ?_) (sameUpd hr) ?_ (fun b o z => ?_) (.newTup k5 fr)
            · by_cases hb : b = r
              · subst hb; rw [upd_same] at z ⊢; exact z
              · rw [upd_ne hb] at z ⊢; exact hs b o z
            · have : l ≠ r := fun w => by rw [w, hr] at k4; cases k4
              rw [upd_ne this]
              exact k4
            · by_cases hb : b = r
              · subst hb; exact .inr hr
              · rw [upd_ne hb] at z; exact .inl z
          · rename_i yn _ _ els
            cases els
            obtain ⟨hio, i5⟩ := and3 hio
            obtain ⟨hio, i4⟩ := and3 hio
            obtain ⟨i0, i3⟩ := and3 hio
            obtain ⟨y1, y2, _⟩ := nmB1 i5
            refine ⟨_, pss_last (fun m x => chkS_ok n G m x) (ps_ret (pe_var (i := d.np - 1) (by show N[d.np - 1]? = _; exact nthB1 i3) (G.toGd.vis i4) y1 y2)) hb, fin _ fun D σ2 F2 H2 vs2 k0 hs k4 k5 hq => ?_⟩
            exact ⟨.ref l, k0, hq (.ref l) F2 H2 (Same.refl _) hs (Same.refl _) k4 (fun _ _ z => .inl z) (by rw [i0, if_pos rfl])⟩
          · cases hio
/-! a def whose parameter is a dict -/
theorem sl_vals {vs : List V} {ds : List D} {F : Hp} (h : DVs K F vs ds) (H : Hp) (i : Nat) (hi : i < ds.length) : SlOk ⟨K, w⟩ F H ((vs.map some)[i]?.getD none) ((ds.map Sl.val)[i]?.getD .no) := by
  rw [List.getElem?_map, List.getElem?_map]
  obtain ⟨v, e1, e2⟩ := h.get (List.getElem?_eq_getElem hi)
  rw [e1, List.getElem?_eq_getElem hi]
  exact ⟨v, rfl, e2⟩
theorem start_dct {us ws : List V} {ds es : List D} {l : Addr} {kvs : List (D × D)} {xs : List (NestedKey × Addr × Value)} {F : Hp} (h1 : DVs K F us ds) (h2 : DVs K F ws es) (hl : F l = some (DctO w l xs)) (he : DctE K F xs kvs) (nd : (xs.map (·.1)).Nodup) (n : Nat) (H : Hp) (i : Nat) :
    SlOk ⟨K, w⟩ F H (((us ++ V.ref l :: ws).map some ++ List.replicate n none : L2.St).getD i none) (getS (ds.map .val ++ .dct kvs :: es.map .val ++ List.replicate n .no) i) := by
  have l1 := h1.length
  have l2 := h2.length
  unfold getS
  rw [List.getD_eq_getElem?_getD, List.getD_eq_getElem?_getD, List.map_append, List.map_cons, List.append_assoc, List.append_assoc, List.cons_append, List.cons_append]
  by_cases hi : i < ds.length
  · rw [List.getElem?_append_left (by rw [List.length_map, l1]; exact hi), List.getElem?_append_left (by rw [List.length_map]; exact hi)]
    exact sl_vals h1 H i hi
  · rw [List.getElem?_append_right (by rw [List.length_map, l1]; exact Nat.le_of_not_lt hi), List.getElem?_append_right (by rw [List.length_map]; exact Nat.le_of_not_lt hi), List.length_map, List.length_map, l1]
    cases e : i - ds.length with
    | zero => exact ⟨l, xs, rfl, hl, he, nd⟩
    | succ j =>
      rw [List.getElem?_cons_succ, List.getElem?_cons_succ]
      by_cases hj : j < es.length
      · rw [List.getElem?_append_left (by rw [List.length_map, l2]; exact hj), List.getElem?_append_left (by rw [List.length_map]; exact hj)]
        exact sl_vals h2 H j hj
      · rw [List.getElem?_append_right (by rw [List.length_map, l2]; exact Nat.le_of_not_lt hj), List.getElem?_append_right (by rw [List.length_map]; exact Nat.le_of_not_lt hj), List.getElem?_replicate, List.getElem?_replicate]
        rw [List.length_map, List.length_map, l2]
        split <;> exact trivial
theorem dct_no {ds es es' : List D} {kvs : List (D × D)} {n i : Nat} : getS (ds.map .val ++ .dct kvs :: es.map .val ++ List.replicate n .no) i ≠ .own es' := by
  intro h
  have hlt := getS_lt h (fun z => nomatch z)
  have hm : Sl.own es' ∈ (ds.map Sl.val ++ Sl.dct kvs :: es.map Sl.val ++ List.replicate n Sl.no) := by
    unfold getS at h
    rw [List.getD_eq_getElem?_getD, List.getElem?_eq_getElem hlt] at h
    rw [← (show _ = Sl.own es' from h)]
    exact List.getElem_mem hlt
  simp at hm
theorem fn_stepK (a : Ar P w K mg base T C k) (F : L2.Fun K nm nm st f fd) (d : Fd) {n j : Nat} (hs : fscB N ps (defScope st) = true) (hb : chkSs (chkS T N (defScope st) n) d.body (defBody st) = true) (hp : ps.length = d.np) (hn : N.length = d.nn) (hdk : d.dk = some j) :
    FnOk P w K mg base (L2.CX P w) (k + 1) f fd ps (spK ⟨K, w⟩ mg (runI C d) j) := by
  have S := fsc_ok hs
  have hlen : ∀ {us ws : List V} {l : Addr} {ds es : List D} {kvs : List (D × D)} {F' : Hp}, DVs K F' us ds → DVs K F' ws es → (us ++ V.ref l :: ws).length = (ds ++ PyData.dict kvs :: es).length := fun h1 h2 => by
    rw [List.length_append, List.length_append, List.length_cons, List.length_cons, h1.length, h2.length]
  refine L2.Fun.okX F S (fun vs H Q E ⟨F', us, ws, l, ds, es, kvs, xs, ev, _, _, _, _, _, h1, h2, p⟩ => ?_) (fun cdv A outer s H vs Q E hr ⟨F', us, ws, l, ds, es, kvs, xs, ev, hj, sF, hl, he, nd, h1, h2, p⟩ => ?_)
  · subst ev
    rw [hlen h1 h2]
    unfold runI at p
    rw [hdk] at p
    have p : Pg mg (fun c d _ H => E c d H) (DV K) (runK C d j (ds ++ PyData.dict kvs :: es)) [] F' H Q := p
    unfold runK at p
    cases g : decide ((ds ++ PyData.dict kvs :: es).length = d.np) with
    | true => rw [hp]; exact of_decide_eq_true g
    | false => rw [g] at p; exact p.elim
  · subst ev
    unfold runI at p
    rw [hdk] at p
    have p : Pg mg (fun c d _ H => E c d H) (DV K) (runK C d j (ds ++ PyData.dict kvs :: es)) [] F' H Q := p
    unfold runK at p
    cases g : decide ((ds ++ PyData.dict kvs :: es).length = d.np) with
    | false => rw [g] at p; exact p.elim
    | true =>
      rw [g] at p
      have g := of_decide_eq_true g
      have ej : j = ds.length := by rw [← hj, h1.length]
      have e1 : (ds ++ PyData.dict kvs :: es)[j]? = some (.dict kvs) := by rw [ej, List.getElem?_append_right (Nat.le_refl _), Nat.sub_self]; rfl
      have e2 : (ds ++ PyData.dict kvs :: es).take j = ds := by rw [ej, List.take_left']; rfl
      have e3 : (ds ++ PyData.dict kvs :: es).drop (j + 1) = es := by
        rw [ej, List.drop_append]
        simp
      rw [e1, e2, e3] at p
      have G := gs_of (f := f) (nm := nm) (st := st) (N := N) a S hr (H := H) (E := E) (outer := outer)
      refine ⟨_, chkSs_ok (fun m x => chkS_ok n G m x) hb, F', H, ds.map .val ++ .dct kvs :: es.map .val ++ List.replicate (d.nn - (ds ++ PyData.dict kvs :: es).length) .no, F', ⟨Stp.refl sF, ?_, fun i => ?_, fun i es' b e _ => absurd e dct_no, fun i j es' es2 b _ e _ _ => absurd e dct_no⟩, ?_⟩
      · show _ = (L2.start N (us ++ V.ref l :: ws)).length
        unfold L2.start
        simp only [List.length_append, List.length_map, List.length_replicate, List.length_cons, h1.length, h2.length, hn]
      · show SlOk ⟨K, w⟩ F' H ((L2.start N (us ++ V.ref l :: ws)).getD i none) _
        unfold L2.start
        rw [hlen (l := l) (kvs := kvs) h1 h2, hn]
        exact start_dct h1 h2 hl he nd _ H i
      · have p : Pg mg (fun c d _ H => E c d H) (DV K) (match evSs C d.body (ds.map .val ++ .dct kvs :: es.map .val ++ List.replicate (d.nn - (ds ++ PyData.dict kvs :: es).length) .no) with | .next _ => .ok .none | .ret x => .ok x | .exc c => .exc c | .bad => .bad) [] F' H Q := p
        show Pf ⟨K, w⟩ mg (fun cls d _ H => E cls d H) F' H _ _ _ (evSs C d.body (ds.map .val ++ .dct kvs :: es.map .val ++ List.replicate (d.nn - (ds ++ PyData.dict kvs :: es).length) .no))
        cases e : evSs C d.body (ds.map .val ++ .dct kvs :: es.map .val ++ List.replicate (d.nn - (ds ++ PyData.dict kvs :: es).length) .no) with
        | next ρ => rw [e] at p; exact fun σ F2 H2 R2 _ => p .non F2 H2 R2.st .non
        | ret x => rw [e] at p; exact fun v F2 H2 st2 dv2 => p v F2 H2 st2 dv2
        | exc c => rw [e] at p; exact fun A' σ F2 H2 m2 st2 => p A' F2 H2 m2 st2
        | bad => rw [e] at p; exact p
end
end Pu
/-! ### the word for a refusal: the def -/
namespace Pu
open PySem PySem.Spec PyProof.Rows L2
def wordSt (N : List Str) (st : Stmt) : Bool := match defBody st with
  | [.Assign [.Name ks _] (.List [.Call (.Name i1 _) [.Name e1 _, .Name n1 _] [] _, .Call (.Name i2 _) [.Name e2 _, .Name n2 _] [] _] _) _,
     .If (.BoolOp o1 [.Compare (.Call (.Attribute (.Name ks2 _) m1 ap) [.Constant (.bool true) _ _] [] p1) [o2] [.Constant (.int one) _ _] _, .UnaryOp o3 (.Call (.Name i3 _) [.Name e3 _, .Name n3 _] [] _) _] _) [.Return (some (.Constant (.str _) _ _)) _] [] _,
     .Return (some (.Subscript (.Tuple [.Constant (.str s1) _ _, .Constant (.str s2) _ _] _ _) (.Call (.Attribute (.Name ks3 _) m2 ap2) [.Constant (.bool true) _ _] [] p2) _)) _] =>
    nthB N 1 ks && nthB N 1 ks2 && nthB N 1 ks3 && nthB N 0 e1 && nthB N 0 e2 && nthB N 0 e3 && isLoc (defScope st) ks && isLoc (defScope st) e1 && nmB ks && nmB e1 &&
    (i1 == ("isinstance" : Str)) && (i2 == ("isinstance" : Str)) && (i3 == ("isinstance" : Str)) && glB (defScope st) "isinstance" &&
    (n1 == ("NoNode" : Str)) && (n2 == ("NoText" : Str)) && (n3 == ("ValueError" : Str)) && glB (defScope st) "NoNode" && glB (defScope st) "NoText" && glB (defScope st) "ValueError" &&
    (m1 == ("count" : Str)) && (m2 == ("index" : Str)) && (ap.endLine == p1.line) && (ap2.endLine == p2.line) && decide (one = 1) && nmB "isinstance" && nmB "NoNode" && nmB "NoText" && nmB "ValueError" && decide (o1 = .Or) && decide (o2 = .NotEq) && decide (o3 = .Not) && (s1 == ("no node" : Str)) && (s2 == ("no text" : Str))
  | _ => false

section
variable {P : Program} {w : World} {K : PySem.W.Frag} {mg : Str → Option Value} {base : Heap} {k : Nat} {N ps : List Str} {nm : Str} {st : Stmt} {f A1 A2 : Addr} {fd : FuncData}
theorem glK {sc : Scope} {x : Str} (h : glB sc x = true) : sc.names.lookup x = some .globalImplicit := by
  unfold glB at h
  split at h
  · assumption
  · cases h
theorem wd_ks {D : Addr} {z : Str} (WF : WordF K mg A1 A2) (h : wd A1 A2 D z) : ∃ b1 b2, ExcC K D ∧ PySem.W.kitOne K (.ref D) (.ref A1) = some b1 ∧ PySem.W.kitOne K (.ref D) (.ref A2) = some b2 ∧ PySem.W.kitOne K (.ref D) (.type "ValueError") = some true ∧ ((b1 = true ∧ b2 = false ∧ z = "no node") ∨ (b1 = false ∧ b2 = true ∧ z = "no text")) := by
  rcases h with ⟨rfl, rfl⟩ | ⟨rfl, rfl⟩
  · exact ⟨true, false, WF.c1, WF.k11, WF.k12, WF.v1, .inl ⟨rfl, rfl, rfl⟩⟩
  · exact ⟨false, true, WF.c2, WF.k21, WF.k22, WF.v2, .inr ⟨rfl, rfl, rfl⟩⟩
theorem word_ok (F : L2.Fun K nm nm st f fd) (hs : fscB N ps (defScope st) = true) (hp : ps.length = 1) (hb : wordSt N st = true) (WF : WordF K mg A1 A2) : FnW P w K mg base (k + 1) f fd ps A1 A2 := by
  obtain ⟨oc, od, kV, doc, pm, an, cdv, ct, osl, rfl, lk, hcd⟩ := F.ex
  have S := fsc_ok hs
  refine ⟨fun A outer s H a oe D z args Q hr hpin hz hf hw e0 hbd hq => ?_⟩
  have r : Vals [V.ref a] [Value.ref a] := .cons rfl .nil
  have KX : K.In s.heap := e0.mod.kin.keeps fun b o e => (e0.bs b o e).1
  have lim : s.heap.NoLimit := e0.mod.nolimit.keeps fun b o e => (e0.bs b o e).1
  have hkind : ∀ y ∈ ps.zip [Value.ref a], (defScope st).names.lookup y.1 = some .local ∨ ((defScope st).names.lookup y.1 = some .cell ∧ ((cellsFrom (s.heap.objs.size + 1) (defScope st).names []).lookup y.1).isSome = true) := fun ⟨n, v⟩ hy => by
    rcases S.par n (List.of_mem_zip hy).1 with q | q
    · exact .inl q
    · exact .inr ⟨q, PySem.W.cellsFrom_some _ _ _ (.inl q)⟩
  refine codeAny_call_function hr.depth (KX _ _ lk) rfl S.co S.gen rfl (PySem.W.codeRec_of KX hcd) (hbd _ _ _ _ ?_)
  refine wpAny_newFunctionEnv_cells S.kind hkind fun env he s1 x => ?_
  subst he
  refine ⟨lim.keeps x.toInCall.keep, codeAny_func ?_⟩
  let X := L2H.cxH (fun _ _ _ _ _ _ => False) P w K mg base N nm (defScope st) f cdv A outer s H (fun _ _ _ => False) (a, oe)
  have I : L2.Inv X [] (L2.start N [V.ref a]) H s1 := L2H.inv_startH S hpin e0 hp.symm r x
  have body : ∃ t, PSs X (defBody st) t ∧ t { nx := fun _ H' => Q .non H', rt := Q } (L2.start N [V.ref a]) H := by
    obtain ⟨b1, b2, hC, w1, w2, w3, hcase⟩ := wd_ks WF hw
    unfold wordSt at hb
    split at hb
    · rename_i eb
      rw [eb]
      obtain ⟨hb, c_s2⟩ := and3 hb
      obtain ⟨hb, c_s1⟩ := and3 hb
      obtain ⟨hb, c_o3⟩ := and3 hb
      obtain ⟨hb, c_o2⟩ := and3 hb
      obtain ⟨hb, c_o1⟩ := and3 hb
      obtain ⟨hb, c_nV⟩ := and3 hb
      obtain ⟨hb, c_nT⟩ := and3 hb
      obtain ⟨hb, c_nN⟩ := and3 hb
      obtain ⟨hb, c_nI⟩ := and3 hb
      obtain ⟨hb, c_one⟩ := and3 hb
      obtain ⟨hb, c_a2⟩ := and3 hb
      obtain ⟨hb, c_a1⟩ := and3 hb
      obtain ⟨hb, c_m2⟩ := and3 hb
      obtain ⟨hb, c_m1⟩ := and3 hb
      obtain ⟨hb, c_gV⟩ := and3 hb
      obtain ⟨hb, c_gT⟩ := and3 hb
      obtain ⟨hb, c_gN⟩ := and3 hb
      obtain ⟨hb, c_n3⟩ := and3 hb
      obtain ⟨hb, c_n2⟩ := and3 hb
      obtain ⟨hb, c_n1⟩ := and3 hb
      obtain ⟨hb, c_gI⟩ := and3 hb
      obtain ⟨hb, c_i3⟩ := and3 hb
      obtain ⟨hb, c_i2⟩ := and3 hb
      obtain ⟨hb, c_i1⟩ := and3 hb
      obtain ⟨hb, c_ne1⟩ := and3 hb
      obtain ⟨hb, c_nks⟩ := and3 hb
      obtain ⟨hb, c_le1⟩ := and3 hb
      obtain ⟨hb, c_lks⟩ := and3 hb
      obtain ⟨hb, c_e3⟩ := and3 hb
      obtain ⟨hb, c_e2⟩ := and3 hb
      obtain ⟨hb, c_e1⟩ := and3 hb
      obtain ⟨hb, c_ks3⟩ := and3 hb
      obtain ⟨hb, c_ks2⟩ := and3 hb
      have c_ks := hb
      have e := of_decide_eq_true c_one
      subst e
      have e := of_decide_eq_true c_o1
      subst e
      have e := of_decide_eq_true c_o2
      subst e
      have e := of_decide_eq_true c_o3
      subst e
      have e := eq_of_beq c_i1
      subst e
      have e := eq_of_beq c_i2
      subst e
      have e := eq_of_beq c_i3
      subst e
      have e := eq_of_beq c_n1
      subst e
      have e := eq_of_beq c_n2
      subst e
      have e := eq_of_beq c_n3
      subst e
      have e := eq_of_beq c_m1
      subst e
      have e := eq_of_beq c_m2
      subst e
      have e := eq_of_beq c_s1
      subst e
      have e := eq_of_beq c_s2
      subst e
      have e := nth_eq c_ks c_ks2
      subst e
      have e := nth_eq c_ks c_ks3
      subst e
      have e := nth_eq c_e1 c_e2
      subst e
      have e := nth_eq c_e1 c_e3
      subst e
      have vE : ∀ {p : Pos}, PE X (.Name _ p) (tVar 0) := fun {p} => pe_var (X := X) (pos := p) (nthB1 c_e1) (locVis c_le1) (nmB1 c_ne1).1 (nmB1 c_ne1).2.1
      have vK : ∀ {p : Pos}, PE X (.Name _ p) (tVar 1) := fun {p} => pe_var (X := X) (pos := p) (nthB1 c_ks) (locVis c_lks) (nmB1 c_nks).1 (nmB1 c_nks).2.1
      have cI := call_isE' (X := X) (a := a) (D := D) hC (show (a, oe) ∈ [(a, oe)] from List.mem_cons_self) hz hf
      have pI : ∀ {x y : Expr} {tx ty : TE} {p q : Pos}, PE X x tx → PE X y ty → nst x = true → nst y = true → PE X (.Call (.Name "isinstance" p) [x, y] [] q) _ := fun {x y tx ty p q} hx hy n1 n2 => pe_callB (pos := q) (p := p) cI (glK c_gI) WF.mI PyProof.Rows.boot_isinstance (pa_cons hx (pa_cons hy pa_nil (star_ns n2)) (star_ns n1)) (by decide) (nmB1 c_nI).1 (star_ns n1) (any_ns (xs := [_]) (by rw [List.all_cons, n2]; rfl))
      have hN : N.Nodup := S.nd
      have gN : ∀ {p : Pos}, PE X (.Name "NoNode" p) (tC (.ref A1)) := fun {p} => pe_glob (X := X) (pos := p) (glK c_gN) WF.m1 rfl (nmB1 c_nN).1
      have gT : ∀ {p : Pos}, PE X (.Name "NoText" p) (tC (.ref A2)) := fun {p} => pe_glob (X := X) (pos := p) (glK c_gT) WF.m2 rfl (nmB1 c_nT).1
      have gV : ∀ {p : Pos}, PE X (.Name "ValueError" p) (tC (.ty "ValueError")) := fun {p} => pe_tyname (X := X) (pos := p) (glK c_gV) WF.mV boot_ValueError (nmB1 c_nV).2.2 (nmB1 c_nV).1
      have hu : X.A.units + 65 < cLine := by have := (hr.deeper (envOfC nm (defScope st) s.heap.objs.size f cdv)).un; show (A.deeper _).units + 65 < cLine; omega
      refine ⟨_, pss_cons (ps_set hN (nthB1 c_ks) (.inl (isLoc1 c_lks)) (pe_lst (pa_cons (pI vE gN rfl rfl) (pa_cons (pI vE gT rfl rfl) pa_nil))) rfl) (pss_cons (ps_if (pw_or (pt_cmpR op_ne (pe_bm (X := X) PySem.F.plainAttrs_list PySem.F.slot_list_count PySem.F.type_list_count (mt_countD hu) vK (pa_cons pe_bl pa_nil) rfl rfl c_a1 rfl rfl) pe_int rfl) (pw_or1 (pt_not (pt_truth (pI vE gV rfl rfl) (fun _ => rfl))))).pt (pss_one (ps_ret pe_str)) pss_nil) (pss_one (ps_ret (pe_ix ix_tup (pe_tup (pa_cons pe_str (pa_cons pe_str pa_nil))) (pe_bm (X := X) PySem.F.plainAttrs_list PySem.F.slot_list_index PySem.F.type_list_index (mt_indexD hu) vK (pa_cons pe_bl pa_nil) rfl rfl c_a2 rfl rfl) (fun _ _ => rfl))))), ?_⟩
      have hN2 : N[1]? = some _ := nthB1 c_ks
      have l2 : 1 < N.length := (List.getElem?_eq_some_iff.mp hN2).1
      have st0 : (L2.start N [V.ref a])[0]? = some (some (V.ref a)) := rfl
      refine ⟨.ref a, st0, .ref A1, _, b1, rfl, (fun u r => r), w1, .ref a, st0, .ref A2, _, b2, rfl, (fun u r => r), w2, (by rw [sizeLine_eq]; show 2 ≤ 16777216; decide), fun q hq => ?_⟩
      have st1 : ((L2.start N [V.ref a]).set 1 (some (V.ref q)))[1]? = some (some (V.ref q)) := by
        refine List.getElem?_set_self ?_
        unfold L2.start
        simp only [List.length_append, List.length_map, List.length_replicate, List.length_cons, List.length_nil]
        omega
      have st0' : ((L2.start N [V.ref a]).set 1 (some (V.ref q)))[0]? = some (some (V.ref a)) := rfl
      have hlst : SqL K (upd H q (.lst [V.bl b1, V.bl b2])) q [V.bl b1, V.bl b2] := .of upd_same
      have hdp : Dp K (upd H q (.lst [V.bl b1, V.bl b2])) (.ref q) (.list [.bool b1, .bool b2]) := .lst hlst (.cons (.bl _) (.cons (.bl _) .nil))
      refine ⟨.ref q, st1, .inl ⟨rfl, _, hlst⟩, q, .bl true, .bool true, [.bool b1, .bool b2], rfl, rfl, hdp, .bl _, rfl, rfl, (by show PyData.depthAll [PyData.bool b1, PyData.bool b2] ≤ 60; simp [PyData.depthAll, PyData.depth]), rfl, false, ?_, ?_⟩
      · rcases hcase with ⟨rfl, rfl, _⟩ | ⟨rfl, rfl, _⟩ <;> rfl
      refine Eq.mpr (if_neg Bool.false_ne_true) ?_
      refine ⟨.ref a, st0', .ty "ValueError", _, true, rfl, (fun u r => r), w3, true, rfl, ?_⟩
      refine Eq.mpr (if_neg Bool.false_ne_true) ?_
      refine ⟨(by rw [sizeLine_eq]; show 2 ≤ 16777216; decide), fun q2 hq2 => ?_⟩
      have hlst2 : SqL K (upd (upd H q (.lst [V.bl b1, V.bl b2])) q2 (.tup [V.str "no node", V.str "no text"])) q [V.bl b1, V.bl b2] := .of (by
        rw [upd_ne (fun z => by rw [← z, upd_same] at hq2; cases hq2)]
        exact upd_same)
      have hdp2 : Dp K (upd (upd H q (.lst [V.bl b1, V.bl b2])) q2 (.tup [V.str "no node", V.str "no text"])) (.ref q) (.list [.bool b1, .bool b2]) := .lst hlst2 (.cons (.bl _) (.cons (.bl _) .nil))
      have sm : Same H (upd (upd H q (.lst [V.bl b1, V.bl b2])) q2 (.tup [V.str "no node", V.str "no text"])) := (sameUpd hq).trans (sameUpd hq2)
      refine ⟨.ref q, st1, .inl ⟨rfl, _, hlst2⟩, ?_⟩
      rcases hcase with ⟨rfl, rfl, rfl⟩ | ⟨rfl, rfl, rfl⟩
      · exact ⟨q, .bl true, .bool true, [.bool true, .bool false], 0, .bool true, rfl, rfl, hdp2, .bl _, rfl, rfl, rfl, rfl, fun m z' hm _ => absurd hm (Nat.not_lt_zero _), q2, _, 0, _, rfl, rfl, .inl (.of upd_same), rfl, hq _ sm⟩
      · exact ⟨q, .bl true, .bool true, [.bool false, .bool true], 1, .bool true, rfl, rfl, hdp2, .bl _, rfl, rfl, rfl, rfl, fun m z' hm hz' => by
          have : m = 0 := by omega
          subst this
          cases hz'
          rfl, q2, _, 1, _, rfl, rfl, .inl (.of upd_same), rfl, hq _ sm⟩
    · cases hb
  obtain ⟨t, ht, hqq⟩ := body
  refine wpAny_mono (ht.run [] s1 (L2.start N [V.ref a]) H _ I hqq) (fun fl s' hs => ?_) fun e s' hs => hs
  have fin : ∀ {σ' : L2.St} {H' : Hp} {v : V} {u : Value}, L2.Inv X [] σ' H' s' → RelV v u → Q v H' → CE outer P w H s Q u s' :=
    fun {σ' H' v u} J rv q => ⟨v, H', J.os, J.bare, J.base, J.hok, rv, q⟩
  cases fl with
  | ret u =>
    obtain ⟨v, σ', H', J, rv, q⟩ := hs
    exact fin J rv q
  | next =>
    obtain ⟨σ', H', J, q⟩ := hs
    exact fin (v := V.non) (u := Value.none) J rfl q
  | brk =>
    obtain ⟨_, _, _, q⟩ := hs
    exact False.elim q
  | cont =>
    obtain ⟨_, _, _, q⟩ := hs
    exact False.elim q
end
end Pu
/-! ### all defs of a text -/
namespace Pu
open PySem PySem.Spec PyProof.Rows L2
structure Df where
  nm : Str
  st : Stmt
  N : List Str
  fd : Fd
def Df.ps (d : Df) : List Str := d.N.take d.fd.np
def fuel : Nat := 60
def dfB (T : Tab) (d : Df) : Bool :=
  fscB d.N d.ps (defScope d.st) && decide (d.ps.length = d.fd.np) && decide (d.N.length = d.fd.nn) && (if d.fd.io then (match d.fd.dk with
      | none => chkSs (chkS T d.N (defScope d.st) fuel) d.fd.body (defBody d.st).dropLast && ioSt T d.N d.fd.np (defScope d.st) d.fd.il (defBody d.st).getLast? && decide (1 ≤ d.fd.np) && !((wrSs d.fd.body).contains (d.fd.np - 1))
      | some _ => chkSs (chkS T d.N (defScope d.st) fuel) d.fd.body (defBody d.st))
    else chkSs (chkS T d.N (defScope d.st) fuel) d.fd.body (defBody d.st))
/-- the def stands there -/
def DOk (K : PySem.W.Frag) (mg : Str → Option Value) (nm : Str) (st : Stmt) (ps : List Str) : Prop := ∃ f fd, L2.Fun K nm nm st f fd ∧ mg nm = some (.ref f) ∧ Binds K fd ps []
theorem dok_mk {K : PySem.W.Frag} {h : Heap} {mg : Str → Option Value} (X : K.In h) (G : h.Ns mainGlobals mg) {nm : Str} {st : Stmt} {ps : List Str} {f : Addr} {od an : Option Addr} {sl : Array (Option Value)} {oc kV dc pm cd ct : Value}
    (a : PySem.W.nsIn K mainGlobals nm = some (some (.ref f))) (l : K.lookup f = some ⟨oc, od, .func (PySem.W.fnOf nm nm (defArgs st) (defBody st) (defScope st) .none kV dc pm an cd ct), sl⟩) (c : PySem.W.codeIn K cd nm = true) (k : PySem.W.keepIn K (.ref f) = true)
    (b : ∀ (kV doc pm : Value) (an : Option Addr) (cdv ct : Value) (us : List Value), us.length = ps.length → bindArgs (PySem.W.fnOf nm nm (defArgs st) (defBody st) (defScope st) .none kV doc pm an cdv ct) ⟨us, []⟩ = pure (ps.zip us)) : DOk K mg nm st ps := by
  have F1 := fun_mk (st := st) l c k
  exact ⟨f, _, F1, PySem.W.mg_of X G a, F1.binds b⟩
section
variable {P : Program} {w : World} {K : PySem.W.Frag} {mg : Str → Option Value} {base : Heap} {T : Tab} {C : Nat → List D → Rs D} {k : Nat} {N ps : List Str} {nm : Str} {st : Stmt} {f : Addr} {fd : FuncData}
theorem fn_no {sp : Sp} (h : ∀ vs H Q E, ¬ sp vs H Q E) : FnOk P w K mg base (L2.CX P w) k f fd ps sp := ⟨fun vs H Q E z => absurd z (h _ _ _ _), fun A outer s H args us vs Q E _ _ _ _ z => absurd z (h _ _ _ _)⟩
structure Txt0 (K : PySem.W.Frag) (mg : Str → Option Value) (T : Tab) (Tf : Nat → Option Fd) (ds : List Df) : Prop where
  bl : ∀ x ∈ T.bl, mg x = none
  tf : ∀ f x, T.fns.lookup f = some x → ∃ d ∈ ds, d.nm = x ∧ d.fd.io = false ∧ Tf f = some d.fd
  ti : ∀ f x, T.ios.lookup f = some x → ∃ d ∈ ds, d.nm = x ∧ d.fd.io = true ∧ d.fd.dk = none ∧ Tf f = some d.fd
  tk : ∀ f x j, T.dks.lookup f = some (x, j) → ∃ d ∈ ds, d.nm = x ∧ d.fd.io = true ∧ d.fd.dk = some j ∧ Tf f = some d.fd
  tre : ∀ x, T.tre = some x → ∃ c, mg x = some c ∧ TreC K mg c
  wrd : ∀ x, T.wrd = some x → ∃ st N A1 A2, DOk K mg x st (N.take 1) ∧ fscB N (N.take 1) (defScope st) = true ∧ (N.take 1).length = 1 ∧ wordSt N st = true ∧ WordF K mg A1 A2
  ok : ∀ d ∈ ds, dfB T d = true
  at' : ∀ d ∈ ds, DOk K mg d.nm d.st d.ps
  glc : ∀ x d, T.gls.lookup x = some d → ∃ v u, mg x = some u ∧ RelV v u ∧ ∀ F, DV K F v d
  cel : ∀ x, T.cel = some x → ∃ st N, DOk K mg x st (N.take 2) ∧ fscB N (N.take 2) (defScope st) = true ∧ (N.take 2).length = 2 ∧ cellSt N st = true ∧ mg "len" = none
  exc : ∀ x ∈ T.exs, ∃ A, mg x = some (.ref A) ∧ ∀ X : Cx, X.K = K → X.mg = mg → Gl X x → ∀ (m : Str) (j : Nat) (p p2 pos : Pos), PMk X (.Call (.Name x p) [.Constant (.str m) j p2] [] pos) (fun _ H Q => Q (.ref A) none H)
theorem no_spI (Tf : Nat → Option Fd) (f : Nat) : ∀ vs H Q E, ¬ spI K (run Tf 0 f) vs H Q E := fun vs H Q E h => by
  obtain ⟨_, _, _, _, _, _, _, il, _, _, _, _, _, _, z, _⟩ := h
  cases il <;> cases (show Rs.bad = _ from z)
theorem no_spK {w : World} (Tf : Nat → Option Fd) (f j : Nat) : ∀ vs H Q E, ¬ spK ⟨K, w⟩ mg (run Tf 0 f) j vs H Q E := fun vs H Q E h => by
  obtain ⟨_, _, _, _, _, _, _, _, _, _, _, _, _, _, _, _, z⟩ := h
  exact z
theorem wrd_ok {x : Str} (h : ∃ st N A1 A2, DOk K mg x st (N.take 1) ∧ fscB N (N.take 1) (defScope st) = true ∧ (N.take 1).length = 1 ∧ wordSt N st = true ∧ WordF K mg A1 A2) (k : Nat) :
    ∃ fa fd ps A1 A2, FnW P w K mg base (k + 1) fa fd ps A1 A2 ∧ WordF K mg A1 A2 ∧ mg x = some (.ref fa) ∧ PySem.W.keepIn K (.ref fa) = true ∧ Binds K fd ps [] ∧ ps.length = 1 := by
  obtain ⟨st, N, A1, A2, ⟨fa, fd, F, hm, hb⟩, h1, h2, h3, h4⟩ := h
  exact ⟨fa, fd, N.take 1, A1, A2, word_ok F h1 h2 h3 h4, h4, hm, F.kp, hb, h2⟩
theorem no_spD (Tf : Nat → Option Fd) (f : Nat) : ∀ vs H Q E, ¬ spD K mg (run Tf 0 f) vs H Q E := fun vs H Q E h => by
  obtain ⟨_, _, _, _, z⟩ := h
  exact z
theorem all_ok {Tf : Nat → Option Fd} {ds : List Df} (t : Txt0 K mg T Tf ds) : ∀ k : Nat, Ar P w K mg base T (run Tf k) (k + 1)
  | 0 => ⟨t.bl, fun f x h => by
      obtain ⟨d, hd, rfl, _, _⟩ := t.tf f x h
      obtain ⟨fa, fd, F, hm, hb⟩ := t.at' d hd
      exact ⟨fa, fd, d.ps, fn_no (no_spD Tf f), hm, F.kp, hb⟩, fun f x h => by
      obtain ⟨d, hd, rfl, _, _, _⟩ := t.ti f x h
      obtain ⟨fa, fd, F, hm, hb⟩ := t.at' d hd
      exact ⟨fa, fd, d.ps, fn_no (no_spI Tf f), hm, F.kp, hb⟩, t.glc, fun x h => by
      obtain ⟨st, N, ⟨fa, fd, F, hm, hb⟩, h1, h2, h3, h4⟩ := t.cel x h
      exact ⟨fa, fd, N.take 2, cell_ok F h1 h2 h3 h4, hm, F.kp, hb⟩, fun f x j h => by
      obtain ⟨d, hd, rfl, _, _, _⟩ := t.tk f x j h
      obtain ⟨fa, fd, F, hm, hb⟩ := t.at' d hd
      exact ⟨fa, fd, d.ps, fn_no (no_spK Tf f j), hm, F.kp, hb⟩, t.tre, fun x h => wrd_ok (t.wrd x h) 0, t.exc⟩
  | k + 1 => by
    have a := all_ok t k
    refine ⟨t.bl, fun f x h => ?_, fun f x h => ?_, t.glc, fun x h => ?_, fun f x j h => ?_, t.tre, fun x h => wrd_ok (t.wrd x h) (k + 1), t.exc⟩
    · obtain ⟨d, hd, rfl, hio, hf⟩ := t.tf f x h
      obtain ⟨fa, fd, F, hm, hb⟩ := t.at' d hd
      have ok := t.ok d hd
      unfold dfB at ok
      obtain ⟨ok, o4⟩ := and3 ok
      obtain ⟨ok, o3⟩ := and3 ok
      obtain ⟨o1, o2⟩ := and3 ok
      rw [hio, if_neg Bool.false_ne_true] at o4
      have e : run Tf (k + 1) f = runB (run Tf k) d.fd := by
        funext args
        rw [run, hf]
        show (if d.fd.io = true then _ else _) = _
        rw [hio, if_neg Bool.false_ne_true]
      rw [e]
      exact ⟨fa, fd, d.ps, fn_step a F d.fd o1 o4 (of_decide_eq_true o2) (of_decide_eq_true o3), hm, F.kp, hb⟩
    · obtain ⟨d, hd, rfl, hio, hdk, hf⟩ := t.ti f x h
      obtain ⟨fa, fd, F, hm, hb⟩ := t.at' d hd
      have ok := t.ok d hd
      unfold dfB at ok
      obtain ⟨ok, o4⟩ := and3 ok
      obtain ⟨ok, o3⟩ := and3 ok
      obtain ⟨o1, o2⟩ := and3 ok
      rw [hio, if_pos rfl, hdk] at o4
      obtain ⟨o4, o7⟩ := and3 o4
      obtain ⟨o4, o6⟩ := and3 o4
      obtain ⟨o4, o5⟩ := and3 o4
      have e : run Tf (k + 1) f = runI (run Tf k) d.fd := by
        funext args
        rw [run, hf]
        show (if d.fd.io = true then _ else _) = _
        rw [hio, if_pos rfl]
      rw [e]
      exact ⟨fa, fd, d.ps, io_step a F d.fd o1 o4 hdk o5 (of_decide_eq_true o2) (of_decide_eq_true o3) (of_decide_eq_true o6) (notB o7), hm, F.kp, hb⟩
    · obtain ⟨st, N, ⟨fa, fd, F, hm, hb⟩, h1, h2, h3, h4⟩ := t.cel x h
      exact ⟨fa, fd, N.take 2, cell_ok F h1 h2 h3 h4, hm, F.kp, hb⟩
    · obtain ⟨d, hd, rfl, hio, hdk, hf⟩ := t.tk f x j h
      obtain ⟨fa, fd, F, hm, hb⟩ := t.at' d hd
      have ok := t.ok d hd
      unfold dfB at ok
      obtain ⟨ok, o4⟩ := and3 ok
      obtain ⟨ok, o3⟩ := and3 ok
      obtain ⟨o1, o2⟩ := and3 ok
      rw [hio, if_pos rfl, hdk] at o4
      have e : run Tf (k + 1) f = runI (run Tf k) d.fd := by
        funext args
        rw [run, hf]
        show (if d.fd.io = true then _ else _) = _
        rw [hio, if_pos rfl]
      rw [e]
      exact ⟨fa, fd, d.ps, fn_stepK a F d.fd o1 o4 (of_decide_eq_true o2) (of_decide_eq_true o3) hdk, hm, F.kp, hb⟩
/-! the law's own def -/
def spL (K : PySem.W.Frag) : Sp := fun vs H Q _ => ∃ (a : Addr) (ns : List Int), vs = [.ref a] ∧ SqL K H a (ns.map V.int) ∧ ns.length ≤ 63 ∧ ∀ H', Q (.bl true) H'
theorem law_step (a : Ar P w K mg base T C k) (F : L2.Fun K nm nm st f fd) (d : Fd) {n : Nat} (hs : fscB N ps (defScope st) = true) (hb : chkSs (chkS T N (defScope st) n) d.body (defBody st) = true) (hp : ps.length = 1) (hn : N.length = d.nn)
    (hr : ∀ ns : List Int, ns.length ≤ 63 → evSs C d.body (.scr ns :: List.replicate (d.nn - 1) .no) = .ret (.bool true)) : FnOk P w K mg base (L2.CX P w) (k + 1) f fd ps (spL K) := by
  have S := fsc_ok hs
  refine L2.Fun.okX F S (fun vs H Q E ⟨a, ns, e, _⟩ => by rw [e, hp]; rfl) (fun cdv A outer s H vs Q E hr' ⟨l, ns, e, hS, h63, q⟩ => ?_)
  subst e
  have G := gs_of (f := f) (nm := nm) (st := st) (N := N) a S hr' (H := H) (E := E) (outer := outer)
  refine ⟨_, chkSs_ok (fun m x => chkS_ok n G m x) hb, H, H, .scr ns :: List.replicate (d.nn - 1) .no, H, ⟨Stp.refl (Same.refl _), ?_, fun i => ?_, fun i es b e _ => ?_, fun i j es es2 b _ e _ _ => ?_⟩, ?_⟩
  · show _ = (L2.start N [V.ref l]).length
    have h1 : 1 ≤ N.length := by
      have := congrArg List.length S.pre
      rw [List.length_take] at this
      omega
    unfold L2.start
    simp only [List.length_append, List.length_map, List.length_replicate, List.length_cons, List.length_nil]
    omega
  · show SlOk ⟨K, w⟩ H H ((L2.start N [V.ref l]).getD i none) _
    unfold L2.start getS
    rw [List.getD_eq_getElem?_getD, List.getD_eq_getElem?_getD]
    cases i with
    | zero => exact ⟨l, rfl, hS⟩
    | succ j =>
      rw [List.getElem?_cons_succ, List.getElem?_replicate]
      split <;> exact trivial
  · unfold getS at e
    rw [List.getD_eq_getElem?_getD] at e
    cases i with
    | zero => cases e
    | succ j =>
      rw [List.getElem?_cons_succ, List.getElem?_replicate] at e
      split at e <;> cases e
  · unfold getS at e
    rw [List.getD_eq_getElem?_getD] at e
    cases i with
    | zero => cases e
    | succ j =>
      rw [List.getElem?_cons_succ, List.getElem?_replicate] at e
      split at e <;> cases e
  · show Pf ⟨K, w⟩ mg (fun cls d _ H => E cls d H) H H _ _ _ (evSs C d.body (.scr ns :: List.replicate (d.nn - 1) .no))
    rw [hr ns h63]
    intro v F2 H2 _ dv
    rw [dv.unbl]
    exact q H2
end
/-! globals -/
def scD : Value → Option (V × D)
  | .none => some (.non, .none)
  | .bool b => some (.bl b, .bool b)
  | .int i _ => some (.int i, .int i)
  | .str x _ => if PyData.strOk x then some (.str x, .str x) else none
  | _ => none
theorem scD_ok {K : PySem.W.Frag} {u : Value} {p : V × D} (h : scD u = some p) : RelV p.1 u ∧ ∀ F, DV K F p.1 p.2 := by
  unfold scD at h
  split at h
  · cases h; exact ⟨rfl, fun _ => .non⟩
  · cases h; exact ⟨rfl, fun _ => .bl _⟩
  · cases h; exact ⟨⟨_, rfl⟩, fun _ => .int _⟩
  · split at h
    · rename_i hk; cases h; exact ⟨⟨_, rfl⟩, fun _ => .str hk⟩
    · cases h
  · cases h
def scDs : List Value → Option (List (V × D))
  | [] => some []
  | u :: us => (scD u).bind fun p => (scDs us).map (p :: ·)
theorem scDs_ok {K : PySem.W.Frag} : ∀ {us : List Value} {ps : List (V × D)}, scDs us = some ps → Vals (ps.map (·.1)) us ∧ ∀ F, DVs K F (ps.map (·.1)) (ps.map (·.2))
  | [], ps, h => by cases h; exact ⟨.nil, fun _ => .nil⟩
  | u :: us, ps, h => by
    obtain ⟨p, h1, h2⟩ := Option.bind_eq_some_iff.mp (show (scD u).bind _ = some ps from h)
    obtain ⟨qs, h3, h4⟩ := Option.map_eq_some_iff.mp h2
    subst h4
    obtain ⟨a1, a2⟩ := scD_ok (K := K) h1
    obtain ⟨b1, b2⟩ := scDs_ok (K := K) h3
    exact ⟨.cons a1 b1, fun F => .cons (a2 F) (b2 F)⟩
def GlOk (K : PySem.W.Frag) (mg : Str → Option Value) (x : Str) (d : D) : Prop := ∃ v u, mg x = some u ∧ RelV v u ∧ ∀ F, DV K F v d
theorem gl_scal {K : PySem.W.Frag} {h : Heap} {mg : Str → Option Value} (X : K.In h) (G : h.Ns mainGlobals mg) {x : Str} {u : Value} {v : V} {d : D} (a : PySem.W.nsIn K mainGlobals x = some (some u)) (e : scD u = some (v, d)) : GlOk K mg x d :=
  ⟨v, u, PySem.W.mg_of X G a, (scD_ok (K := K) e).1, (scD_ok e).2⟩
theorem gl_tup {K : PySem.W.Frag} {h : Heap} {mg : Str → Option Value} (X : K.In h) (G : h.Ns mainGlobals mg) {x : Str} {p : Addr} {ds : List D} {od : Option Addr} {its : Array Value} {n : Nat} {sl : Array (Option Value)} {ps : List (V × D)}
    (a : PySem.W.nsIn K mainGlobals x = some (some (.ref p))) (l : K.lookup p = some ⟨.type "tuple", od, .seq its n, sl⟩) (hz : its.size ≤ sizeLine) (e : scDs its.toList = some ps) (hd : ps.map (·.2) = ds) : GlOk K mg x (.tuple ds) := by
  obtain ⟨h1, h2⟩ := scDs_ok (K := K) e
  subst hd
  exact ⟨.ref p, .ref p, PySem.W.mg_of X G a, rfl, fun F => .tup (.inr ⟨_, its, n, l, rfl, rfl, hz, h1⟩) (h2 F)⟩
end Pu
/-! ### the law's head -/
namespace Pu
open PySem PySem.Spec PyProof.Rows L2
def LOk (K : PySem.W.Frag) (mg : Str → Option Value) (nm x : Str) (st : Stmt) : Prop := ∃ f fd, L2.Fun K nm nm st f fd ∧ mg nm = some (.ref f) ∧ ∀ (s : Shared) (u : Value), BindsTo s fd ⟨[u], []⟩ [(x, u)]
theorem lok_mk {K : PySem.W.Frag} {h : Heap} {mg : Str → Option Value} (X : K.In h) (G : h.Ns mainGlobals mg) {nm x : Str} {st : Stmt} {f : Addr} {od an : Option Addr} {sl : Array (Option Value)} {oc kV dc pm cd ct : Value}
    (a : PySem.W.nsIn K mainGlobals nm = some (some (.ref f))) (l : K.lookup f = some ⟨oc, od, .func (PySem.W.fnOf nm nm (defArgs st) (defBody st) (defScope st) .none kV dc pm an cd ct), sl⟩) (c : PySem.W.codeIn K cd nm = true) (k : PySem.W.keepIn K (.ref f) = true)
    (b : ∀ (kV doc pm : Value) (an : Option Addr) (cdv ct : Value) (u : Value), bindArgs (PySem.W.fnOf nm nm (defArgs st) (defBody st) (defScope st) .none kV doc pm an cdv ct) ⟨[u], []⟩ = pure [(x, u)]) : LOk K mg nm x st := by
  have F1 := fun_mk (st := st) l c k
  exact ⟨f, _, F1, PySem.W.mg_of X G a, fun s u => .of_eq (b _ _ _ _ _ _ u)⟩
theorem walk {T : Tab} {Tf : Nat → Option Fd} {ds : List Df} {d : Df} {nn nf : Nat} {l : PySem.W.OpenLaw} {q : Program} {loose : List Str} {XP : (Str → Option Value) → Heap → Prop} {YP : World → Heap → Prop} {dr : DefRec} {K : Params → PySem.W.Frag} {x : Str} (hn : l.most = some 63) (hdf : dr.params.defaults = []) (hnm : dr.name = d.nm)
    (hY : ∀ (w : World) (h : Heap), YP w h → (K w.params).In h) (hr : Room (nn + 2) callerA) (hd : (fscB d.N [x] (defScope d.st) && chkSs (chkS T d.N (defScope d.st) nf) d.fd.body (defBody d.st) && decide (d.N.length = d.fd.nn)) = true)
    (F : ∀ (w : World) (mg : Str → Option Value) (h : Heap), (K w.params).In h → h.Ns mainGlobals mg → Txt0 (K w.params) mg T Tf ds ∧ LOk (K w.params) mg d.nm x d.st)
    (he : ∀ ns : List Int, ns.length ≤ 63 → evSs (run Tf nn) d.fd.body (.scr ns :: List.replicate (d.fd.nn - 1) .no) = .ret (.bool true)) : PySem.W.WalkO q loose XP YP l.row.toRowW dr [] (fun f vs => PySem.call f vs) := by
  refine L2.walk_of (n := 63) (k := nn + 2) (x := x) (CX := fun w => L2.CX l.prog w) (sp := fun w => spL (K w.params)) hn (by decide) hdf hr hY (fun w mg fa h KX G hfa => ?_) (fun w H a ns hl _ hS => ⟨a, ns, rfl, hS, hl, fun _ => rfl⟩) fun w H s e s' z => ?_
  · obtain ⟨t, f, fd, F1, hm, hb⟩ := F w mg h KX G
    rw [hnm, hm] at hfa
    cases hfa
    obtain ⟨hd, h3⟩ := and3 hd
    obtain ⟨h1, h2⟩ := and3 hd
    exact ⟨fd, hb, fun base _ _ => law_step (all_ok (P := l.prog) (w := w) (base := base) t nn) F1 d.fd h1 h2 rfl (of_decide_eq_true h3) he⟩
  · obtain ⟨_, _, _, _, _, _, _, _, _, _, _, _, z⟩ := z
    exact z.elim
end Pu
namespace Pu
open PySem PySem.Spec PyProof.Rows L2
def AllL {α : Type} (p : α → Prop) : List α → Prop
  | [] => True
  | d :: r => p d ∧ AllL p r
theorem allL_mem {α : Type} {p : α → Prop} : ∀ {l : List α}, AllL p l → ∀ d ∈ l, p d
  | [], _, _, h => by cases h
  | _ :: _, ⟨h1, h2⟩, d, h => by
    cases h with
    | head => exact h1
    | tail _ h => exact allL_mem h2 d h
theorem look_mem {α β : Type} [BEq α] [LawfulBEq α] : ∀ {l : List (α × β)} {a : α} {b : β}, l.lookup a = some b → (a, b) ∈ l
  | [], _, _, h => by cases h
  | (k, v) :: r, a, b, h => by
    rw [List.lookup_cons] at h
    cases e : a == k with
    | true =>
      rw [e] at h
      cases h
      rw [eq_of_beq e]
      exact .head _
    | false =>
      rw [e] at h
      exact .tail _ (look_mem h)
theorem allL_look {α β : Type} [BEq α] [LawfulBEq α] {p : α × β → Prop} {l : List (α × β)} (h : AllL p l) (a : α) (b : β) (e : l.lookup a = some b) : p (a, b) := allL_mem h _ (look_mem e)
abbrev DOkX {K : PySem.W.Frag} {h : Heap} (_ : K.In h) := DOk K
abbrev LOkX {K : PySem.W.Frag} {h : Heap} (_ : K.In h) := LOk K
abbrev GlOkX {K : PySem.W.Frag} {h : Heap} (_ : K.In h) := GlOk K
theorem gl_str {K : PySem.W.Frag} {h : Heap} {mg : Str → Option Value} (X : K.In h) (G : h.Ns mainGlobals mg) {x y : Str} {t : Tok} (a : PySem.W.nsIn K mainGlobals x = some (some (.str y t))) (e : PyData.strOk y = true) : GlOk K mg x (.str y) :=
  ⟨.str y, .str y t, PySem.W.mg_of X G a, ⟨_, rfl⟩, fun _ => .str e⟩
theorem strs_ok {K : PySem.W.Frag} : ∀ (xs : List (Str × Tok)), xs.all (fun p => PyData.strOk p.1) = true → Vals (xs.map fun p => V.str p.1) (xs.map fun p => Value.str p.1 p.2) ∧ ∀ F, DVs K F (xs.map fun p => V.str p.1) (xs.map fun p => .str p.1)
  | [], _ => ⟨.nil, fun _ => .nil⟩
  | (x, t) :: r, h => by
    rw [List.all_cons] at h
    obtain ⟨h1, h2⟩ := and3 h
    obtain ⟨a, b⟩ := strs_ok (K := K) r h2
    exact ⟨.cons ⟨_, rfl⟩ a, fun F => .cons (.str h1) (b F)⟩
theorem gl_strs {K : PySem.W.Frag} {h : Heap} {mg : Str → Option Value} (X : K.In h) (G : h.Ns mainGlobals mg) {x : Str} {p : Addr} {od : Option Addr} {its : Array Value} {n : Nat} {sl : Array (Option Value)} (xs : List (Str × Tok))
    (a : PySem.W.nsIn K mainGlobals x = some (some (.ref p))) (l : K.lookup p = some ⟨.type "tuple", od, .seq its n, sl⟩) (e : its.toList = xs.map fun p => Value.str p.1 p.2) (hz : its.size ≤ sizeLine) (hk : xs.all (fun p => PyData.strOk p.1) = true) : GlOk K mg x (.tuple (xs.map fun p => .str p.1)) := by
  obtain ⟨h1, h2⟩ := strs_ok (K := K) xs hk
  exact ⟨.ref p, .ref p, PySem.W.mg_of X G a, rfl, fun F => .tup (.inr ⟨_, its, n, l, rfl, rfl, hz, by rw [e]; exact h1⟩) (h2 F)⟩
def ExOk (K : PySem.W.Frag) (mg : Str → Option Value) (x : Str) : Prop := ∃ A, mg x = some (.ref A) ∧ ∀ X : Cx, X.K = K → X.mg = mg → Gl X x → ∀ (m : Str) (j : Nat) (p p2 pos : Pos), PMk X (.Call (.Name x p) [.Constant (.str m) j p2] [] pos) (fun _ H Q => Q (.ref A) none H)
abbrev ExOkX {K : PySem.W.Frag} {h : Heap} (_ : K.In h) := ExOk K
theorem exc_mk {K : PySem.W.Frag} {h : Heap} {mg : Str → Option Value} (X : K.In h) (G : h.Ns mainGlobals mg) {x : Str} {A : Addr} (a : PySem.W.nsIn K mainGlobals x = some (some (.ref A))) (q : PySem.W.excIn K A [.type "ValueError", .type "Exception", .type "BaseException", .type "object"] "ValueError.__new__" = true)
    (k : PySem.W.keepIn K (.ref A) = true) (b1 : PySem.W.subIn K (.ref A) (.type "BaseException") = some true) (t1 : PySem.W.typeIn K (.ref A) = some (.type "type")) (hd : (x == ("__debug__" : Str)) = false) : ExOk K mg x :=
  ⟨A, PySem.W.mg_of X G a, fun Y e1 e2 hg m j p p2 pos => by
    subst e1 e2
    exact pmk_own PySem.F.excBase_ValueError q (PySem.W.mg_of X G a) k (raises_own b1 t1) hg hd⟩

/-! the classes of refusals -/
theorem kit_ref {K : PySem.W.Frag} {D C : Addr} {b : Bool} (ne : (Value.ref D == Value.ref C) = false) (hdct : PySem.W.hasDictIn K C = true) (ht : PySem.W.typeIn K (.ref C) = some (.type "type")) (h4 : PySem.W.subIn K (.ref D) (.ref C) = some b) : PySem.W.kitOne K (.ref D) (.ref C) = some b := by
  obtain ⟨cd, hc, _⟩ := PySem.W.any_some hdct
  have e2 : ((PySem.W.clsIn K C).isSome && PySem.W.typeIn K (.ref C) == some (.type "type")) = true := by rw [hc, ht] <;> rfl
  unfold PySem.W.kitOne PySem.W.kitCls
  rw [ne, if_neg Bool.false_ne_true]
  show (if ((PySem.W.clsIn K C).isSome && PySem.W.typeIn K (.ref C) == some (.type "type")) = true then PySem.W.subIn K (.ref D) (.ref C) else none) = some b
  rw [if_pos e2]
  exact h4
theorem kit_self {K : PySem.W.Frag} {D : Addr} : PySem.W.kitOne K (.ref D) (.ref D) = some true := by
  unfold PySem.W.kitOne
  rw [if_pos (by simp)]
theorem kit_ve {K : PySem.W.Frag} {D : Addr} {b : Bool} (h4 : PySem.W.subIn K (.ref D) (.type "ValueError") = some b) : PySem.W.kitOne K (.ref D) (.type "ValueError") = some b := by
  unfold PySem.W.kitOne PySem.W.kitCls
  rw [if_neg (by simp)]
  show (if PySem.W.kitMeta "ValueError" = true then PySem.W.subIn K (.ref D) (.type "ValueError") else none) = some b
  rw [if_pos (by decide +kernel)]
  exact h4
abbrev TreCX {K : PySem.W.Frag} {h : Heap} (_ : K.In h) (mg : Str → Option Value) (x : Str) : Prop := ∃ c, mg x = some c ∧ TreC K mg c
theorem tre_mk {K : PySem.W.Frag} {h : Heap} {mg : Str → Option Value} (X : K.In h) (G : h.Ns mainGlobals mg) {x : Str} {T A1 A2 : Addr} (a : PySem.W.nsIn K mainGlobals x = some (some (.ref T))) (a1 : PySem.W.nsIn K mainGlobals "NoNode" = some (some (.ref A1))) (a2 : PySem.W.nsIn K mainGlobals "NoText" = some (some (.ref A2)))
    (s1 : PySem.W.subIn K (.ref A1) (.ref T) = some true) (s2 : PySem.W.subIn K (.ref A2) (.ref T) = some true) (sb : PySem.W.subIn K (.ref T) (.type "BaseException") = some true) (hd : PySem.W.hasDictIn K T = true) (ht : PySem.W.typeIn K (.ref T) = some (.type "type")) : TreCX X mg x :=
  ⟨.ref T, PySem.W.mg_of X G a, fun A e => by
    have := (PySem.W.mg_of X G a1).symm.trans e
    cases this
    exact PySem.W.exm_ref sb hd ht s1, fun A e => by
    have := (PySem.W.mg_of X G a2).symm.trans e
    cases this
    exact PySem.W.exm_ref sb hd ht s2⟩
abbrev ExcCX {K : PySem.W.Frag} {h : Heap} (_ : K.In h) := ExcC K
theorem excC_mk {K : PySem.W.Frag} {h : Heap} (X : K.In h) {D : Addr} (h1 : PySem.W.findIn K (.ref D) "__getattribute__" = some (some (.builtin "BaseException.__getattribute__"))) (h2 : PySem.W.findIn K (.ref D) "__getattr__" = some none) (h3 : PySem.W.subIn K (.ref D) (.type "BaseException") = some true) (h4 : PySem.W.hasDictIn K D = true)
    (h5 : PySem.W.findIn K (.ref D) "__class__" = some (some (.builtin "object.__class__"))) (h6 : PySem.W.specialIn K (.builtin "object.__class__") "__get__" = some (some (.builtin "getset_descriptor.__get__"))) (h7 : PySem.W.takesIn K (.builtin "object.__class__") = some true) (h8 : PySem.W.mroIn K D (.type "object") = some true) : ExcCX X D := ⟨h1, h2, h3, h4, h5, h6, h7, h8⟩
abbrev WordFX {K : PySem.W.Frag} {h : Heap} (_ : K.In h) := WordF K
theorem wordF_mk {K : PySem.W.Frag} {h : Heap} {mg : Str → Option Value} (X : K.In h) (G : h.Ns mainGlobals mg) {A1 A2 : Addr} (a1 : PySem.W.nsIn K mainGlobals "NoNode" = some (some (.ref A1))) (a2 : PySem.W.nsIn K mainGlobals "NoText" = some (some (.ref A2))) (a3 : PySem.W.nsIn K mainGlobals "ValueError" = some none) (a4 : PySem.W.nsIn K mainGlobals "isinstance" = some none)
    (c1 : ExcC K A1) (c2 : ExcC K A2) (n1 : (Value.ref A1 == Value.ref A2) = false) (n2 : (Value.ref A2 == Value.ref A1) = false) (t1 : PySem.W.typeIn K (.ref A1) = some (.type "type")) (t2 : PySem.W.typeIn K (.ref A2) = some (.type "type"))
    (s12 : PySem.W.subIn K (.ref A1) (.ref A2) = some false) (s21 : PySem.W.subIn K (.ref A2) (.ref A1) = some false) (v1 : PySem.W.subIn K (.ref A1) (.type "ValueError") = some true) (v2 : PySem.W.subIn K (.ref A2) (.type "ValueError") = some true) : WordFX X mg A1 A2 :=
  ⟨PySem.W.mg_of X G a1, PySem.W.mg_of X G a2, PySem.W.mg_none_of X G a3, PySem.W.mg_none_of X G a4, c1, c2, kit_self, kit_ref n1 c2.hd t2 s12, kit_ref n2 c1.hd t1 s21, kit_self, kit_ve v1, kit_ve v2⟩
end Pu
/-! ### the evaluator, by rewriting -/
namespace Pu
open PySem L2
section
variable {C : Nat → List D → Rs D} {ρ : En} {r : En} {s : Sl}
@[simp] theorem line_eq : line = 16777216 := rfl
@[simp] theorem getS_zero : getS (s :: r) 0 = s := rfl
@[simp] theorem getS_succ (i : Nat) : getS (s :: r) (i + 1) = getS r i := rfl
@[simp] theorem ev_var (i : Nat) : ev C (.var i) ρ = match getS ρ i with | .val d => .ok d | _ => .bad := by rw [ev] <;> rfl
@[simp] theorem ev_peek (e : E) : ev C (.peek e) ρ = (ev C e (ρ.map thaw)).bind fun d => .guard (scalar d) (.ok d) := by rw [ev]
@[simp] theorem ev_cst (d : D) : ev C (.cst d) ρ = .ok d := by rw [ev]
@[simp] theorem ev_glob (x : Str) (d : D) : ev C (.glob x d) ρ = .ok d := by rw [ev]
@[simp] theorem ev_tup (es : List E) : ev C (.tup es) ρ = (evs C es ρ).bind fun ds => .guard (decide (ds.length ≤ line)) (.ok (.tuple ds)) := by rw [ev]
@[simp] theorem ev_lst (es : List E) : ev C (.lst es) ρ = (evs C es ρ).bind fun ds => .guard (decide (ds.length ≤ line)) (.ok (.list ds)) := by rw [ev]
@[simp] theorem ev_bin (op : Bop) (a b : E) : ev C (.bin op a b) ρ = (ev C a ρ).bind fun x => (ev C b ρ).bind fun y => binD op x y := by rw [ev]
@[simp] theorem ev_neg (i : Int) : ev C (.neg i) ρ = .ok (.int (-i)) := by rw [ev]
@[simp] theorem ev_cmp (op : Cop) (a b : E) : ev C (.cmp op a b) ρ = (ev C a ρ).bind fun x => (ev C b ρ).bind fun y => (cmpD op x y).bind fun k => .ok (.bool k) := by rw [ev]
@[simp] theorem ev_isc (n : Bool) (a : E) (d : D) : ev C (.isc n a d) ρ = (ev C a ρ).bind fun x => (isD x d).bind fun k => .ok (.bool (if n then !k else k)) := by rw [ev]
@[simp] theorem ev_chn (op op' : Cop) (a b c : E) : ev C (.chn op op' a b c) ρ = (ev C a ρ).bind fun x => (ev C b ρ).bind fun y => (cmpD op x y).bind fun k =>
      if k then (ev C c ρ).bind fun z => (cmpD op' y z).bind fun k' => .ok (.bool k') else .ok (.bool false) := by rw [ev]
@[simp] theorem ev_and (es : List E) : ev C (.and es) ρ = evAnd C es ρ := by rw [ev]
@[simp] theorem ev_or (es : List E) : ev C (.or es) ρ = evOr C es ρ := by rw [ev]
@[simp] theorem ev_not (a : E) : ev C (.not a) ρ = (ev C a ρ).bind fun x => (truth x).bind fun k => .ok (.bool (!k)) := by rw [ev]
@[simp] theorem ev_ite (c a b : E) : ev C (.ite c a b) ρ = (ev C c ρ).bind fun x => (truth x).bind fun k => if k then ev C a ρ else ev C b ρ := by rw [ev]
@[simp] theorem ev_ix (a i : E) : ev C (.ix a i) ρ = (ev C a ρ).bind fun x => (ev C i ρ).bind fun y => ixD x y := by rw [ev]
@[simp] theorem ev_sl (a : E) (lo hi : List E) : ev C (.sl a lo hi) ρ = (ev C a ρ).bind fun x => (evP C lo ρ).bind fun l => (evP C hi ρ).bind fun h => slD x l h := by rw [ev]
@[simp] theorem ev_rev (a : E) : ev C (.rev a) ρ = (ev C a ρ).bind revD := by rw [ev]
@[simp] theorem ev_bi (f : Bi) (es : List E) : ev C (.bi f es) ρ = (evs C es ρ).bind (biD f) := by rw [ev]
@[simp] theorem ev_isi (a : E) (ts : List Ty) : ev C (.isi a ts) ρ = (ev C a ρ).bind fun x => .ok (.bool (ts.any (isTy x))) := by rw [ev]
@[simp] theorem ev_meth (m : Me) (a : E) (es : List E) : ev C (.meth m a es) ρ = (ev C a ρ).bind fun x => (evs C es ρ).bind (meD m x) := by rw [ev]
@[simp] theorem ev_call (f : Nat) (es : List E) : ev C (.call f es) ρ = (evs C es ρ).bind (C f) := by rw [ev]
@[simp] theorem ev_call0 (f : Nat) : ev C (.call0 f) ρ = (C f []).calm := by rw [ev]
@[simp] theorem ev_callN (f : Nat) (es : List E) : ev C (.callN f es) ρ = (evs C es ρ).bind fun ds => tupR (C f (ds ++ [.list []])) := by rw [ev]
theorem ev_comp (elt : E) (tg : Tg) (k : Ik) (src test : List E) (own : List Nat) : ev C (.comp elt tg k src test own) ρ = (evs C src ρ).bind fun ds => (items k ds).bind fun xs =>
      (Rs.calm (compL (fun x => (Rs.ofO (bindT tg x (killS ρ own))).bind fun ρ' =>
        (evT C test ρ').bind fun k => if k then (ev C elt ρ').bind fun y => .ok (some y) else .ok none) xs)).bind fun ys => .ok (.list ys) := by rw [ev]
@[simp] theorem evs_nil : evs C [] ρ = .ok [] := by rw [evs]
@[simp] theorem evs_cons (e : E) (es : List E) : evs C (e :: es) ρ = (ev C e ρ).bind fun d => (evs C es ρ).bind fun ds => .ok (d :: ds) := by rw [evs]
@[simp] theorem evP_nil : evP C [] ρ = .ok none := by rw [evP]
@[simp] theorem evP_cons (e : E) (es : List E) : evP C (e :: es) ρ = (ev C e ρ).bind partD := by rw [evP]
@[simp] theorem evT_nil : evT C [] ρ = .ok true := by rw [evT]
@[simp] theorem evT_cons (e : E) (es : List E) : evT C (e :: es) ρ = (ev C e ρ).bind fun d => (truth d).bind fun k => if k then evT C es ρ else .ok false := by rw [evT]
@[simp] theorem evAnd1 (e : E) : evAnd C [e] ρ = ev C e ρ := by
  rw [evAnd]; cases ev C e ρ <;> rfl
@[simp] theorem evAnd2 (e f : E) (es : List E) : evAnd C (e :: f :: es) ρ = (ev C e ρ).bind fun d => (truth d).bind fun k => if k then evAnd C (f :: es) ρ else .ok d := by rw [evAnd]
@[simp] theorem evOr1 (e : E) : evOr C [e] ρ = ev C e ρ := by
  rw [evOr]; cases ev C e ρ <;> rfl
@[simp] theorem evOr2 (e f : E) (es : List E) : evOr C (e :: f :: es) ρ = (ev C e ρ).bind fun d => (truth d).bind fun k => if k then .ok d else evOr C (f :: es) ρ := by rw [evOr]
@[simp] theorem evSs_nil : evSs C [] ρ = .next ρ := by rw [evSs]
@[simp] theorem evSs_cons (m : S) (ms : List S) : evSs C (m :: ms) ρ = (evS C m ρ).seq fun ρ' => evSs C ms ρ' := by rw [evSs]
@[simp] theorem evS_set (i : Nat) (e : E) : evS C (.set i e) ρ = (ev C e ρ).fl fun d => .next (ρ.set i (.val d)) := by rw [evS]
@[simp] theorem evS_own (i : Nat) (e : E) : evS C (.own i e) ρ = (ev C e ρ).fl fun d => (setO true d).fl fun s => .next (ρ.set i s) := by rw [evS]
@[simp] theorem evS_unp (tg : Tg) (e : E) : evS C (.unp tg e) ρ = (ev C e ρ).fl fun d => (Rs.ofO (bindT tg d ρ)).fl .next := by rw [evS]
@[simp] theorem evS_par (i j : Nat) (oi oj : Bool) (a b : E) : evS C (.par i j oi oj a b) ρ = (ev C a ρ).fl fun x => (setO oi x).fl fun s => (ev C b ρ).fl fun y => (setO oj y).fl fun t => .next ((ρ.set i s).set j t) := by rw [evS]
@[simp] theorem evS_app (i : Nat) (e : E) : evS C (.app i e) ρ = match getS ρ i with
    | .own ds => (ev C e ρ).fl fun d => if ds.length < line then .next (ρ.set i (.own (ds ++ [d]))) else .bad
    | _ => .bad := by rw [evS] <;> rfl
@[simp] theorem evS_ext (i : Nat) (e : E) : evS C (.ext i e) ρ = match getS ρ i with
    | .own ds => (ev C e ρ).fl fun d => match d with
      | .list xs => if ds.length + xs.length ≤ line then .next (ρ.set i (.own (ds ++ xs))) else .bad
      | _ => .bad
    | _ => .bad := by rw [evS] <;> rfl
@[simp] theorem evS_frz (i : Nat) (m : S) : evS C (.frz i m) ρ = evS C m (ρ.set i (thaw (getS ρ i))) := by rw [evS]
@[simp] theorem evS_loop (tg : Tg) (k : Ik) (src : List E) (body : List S) (kill : List Nat) : evS C (.loop tg k src body kill) ρ = (evs C src ρ).fl fun ds => (items k ds).fl fun xs => loopL (evSs C body) tg kill xs ρ := by rw [evS]
/-- the test of a while -/
def tstW (C : Nat → List D → Rs D) (c : E) (ρ : En) : Rs Bool := (ev C c ρ).bind truth
@[simp] theorem evS_whl (n : Nat) (c : E) (body : List S) (kill : List Nat) : evS C (.whl n c body kill) ρ = whlL (tstW C c) (evSs C body) kill n ρ := by rw [evS] <;> rfl
@[simp] theorem evS_iff (c : E) (a b : List S) : evS C (.iff c a b) ρ = (ev C c ρ).fl fun d => (truth d).fl fun k => if k then evSs C a ρ else evSs C b ρ := by rw [evS]
@[simp] theorem evS_ret (e : E) : evS C (.ret e) ρ = (ev C e ρ).fl .ret := by rw [evS]
@[simp] theorem evS_expr (e : E) : evS C (.expr e) ρ = (ev C e ρ).fl fun _ => .next ρ := by rw [evS]
@[simp] theorem evS_raise (c : Str) : evS C (.raise c) ρ = .exc c := by rw [evS]
@[simp] theorem evS_rows (f i : Nat) (es : List E) : evS C (.rows f i es) ρ = match getS ρ i with
    | .own acc => (evs C es ρ).fl fun ds => match C f (ds ++ [.list acc]) with
      | .ok (.tuple zs) => .next (ρ.set i (.own zs))
      | .ok (.list zs) => .next (ρ.set i (.own zs))
      | _ => .bad
    | _ => .bad := by rw [evS] <;> rfl
@[simp] theorem evS_dct (i : Nat) (e : E) : evS C (.dct i e) ρ = (ev C e ρ).fl fun d => (dctD d).fl fun kvs => .next (ρ.set i (.dct kvs)) := by rw [evS]
@[simp] theorem evS_tryw (w : Bool) (b : List S) : evS C (.tryw w b) ρ = (evSs C b ρ).tryF w := by rw [evS]
@[simp] theorem tryF_next (w : Bool) (ρ : En) : (Fl.next ρ).tryF w = .next ρ := rfl
@[simp] theorem tryF_ret (w : Bool) (d : D) : (Fl.ret d).tryF w = .ret d := rfl
theorem tryF_nn (w : Bool) : (Fl.exc "NoNode").tryF w = .ret (if w then .str "no node" else .none) := rfl
@[simp] theorem ev_dget (a k : E) : ev C (.dget a k) ρ = (ev C a ρ).bind fun x => (dctD x).bind fun kvs => (ev C k ρ).bind fun y => dixD kvs y := by rw [ev]
theorem ev_dix {i : Nat} {k : E} {kvs : List (D × D)} (h : getS ρ i = .dct kvs) : ev C (.dix i k) ρ = (ev C k ρ).bind fun y => dixD kvs y := by rw [ev, h]
theorem ev_callD {f i : Nat} {es fs : List E} {kvs : List (D × D)} (h : getS ρ i = .dct kvs) : ev C (.callD f i es fs) ρ = (evs C es ρ).bind fun ds => (evs C fs ρ).bind fun ds' => C f (ds ++ .dict kvs :: ds') := by rw [ev, h]
@[simp] theorem ev_cell (i : Nat) (e : E) : ev C (.cell i e) ρ = match getS ρ i with
    | .scr ns => (ev C e ρ).bind fun d => match d with
      | .int k => .guard (decide (0 ≤ k)) (.ok (.int (ns.getD k.toNat 0)))
      | _ => .bad
    | _ => .bad := by rw [ev] <;> rfl
@[simp] theorem bindT_name (i : Nat) (d : D) : bindT (.name i) d ρ = some (ρ.set i (.val d)) := rfl
@[simp] theorem bindT_tup (ts : List Tg) (xs : List D) : bindT (.tup ts) (.tuple xs) ρ = bindTs ts xs ρ := rfl
@[simp] theorem bindTs_nil : bindTs [] [] ρ = some ρ := rfl
@[simp] theorem bindTs_cons (t : Tg) (ts : List Tg) (x : D) (xs : List D) : bindTs (t :: ts) (x :: xs) ρ = (bindT t x ρ).bind fun ρ' => bindTs ts xs ρ' := rfl
@[simp] theorem killS_nil : killS ρ [] = ρ := rfl
@[simp] theorem killS_cons (i : Nat) (is : List Nat) : killS ρ (i :: is) = killS (ρ.set i .no) is := rfl
@[simp] theorem thaw_own (ds : List D) : thaw (.own ds) = .val (.list ds) := rfl
@[simp] theorem thaw_val (d : D) : thaw (.val d) = .val d := rfl
@[simp] theorem thaw_no : thaw .no = .no := rfl
@[simp] theorem thaw_scr (ns : List Int) : thaw (.scr ns) = .scr ns := rfl
@[simp] theorem setO_t (ds : List D) : setO true (.list ds) = .ok (.own ds) := rfl
@[simp] theorem setO_f (d : D) : setO false d = .ok (.val d) := rfl
@[simp] theorem scalar_int (i : Int) : scalar (.int i) = true := rfl
@[simp] theorem scalar_bool (i : Bool) : scalar (.bool i) = true := rfl
@[simp] theorem scalar_str (i : Str) : scalar (.str i) = true := rfl
@[simp] theorem scalar_none : scalar .none = true := rfl
@[simp] theorem truth_b (b : Bool) : truth (.bool b) = .ok b := rfl
@[simp] theorem calm_bad {α : Type} : Rs.calm (.bad : Rs α) = .bad := rfl
/-! comprehensions, loops -/
theorem compL_map {f : D → Rs (Option D)} {g : D → D} : ∀ {xs : List D}, (∀ x ∈ xs, f x = .ok (some (g x))) → compL f xs = .ok (xs.map g)
  | [], _ => rfl
  | x :: xs, h => by
    rw [compL, h x (.head _), Rs.bind_ok, compL_map (fun y hy => h y (.tail _ hy))]
    rfl
theorem compL_fmap {f : D → Rs (Option D)} {g : D → Option D} : ∀ {xs : List D}, (∀ x ∈ xs, f x = .ok (g x)) → compL f xs = .ok (xs.filterMap g)
  | [], _ => rfl
  | x :: xs, h => by
    rw [compL, h x (.head _), Rs.bind_ok, compL_fmap (fun y hy => h y (.tail _ hy)), List.filterMap_cons]
    show Rs.ok _ = _
    cases g x <;> rfl
theorem comp1 {elt src : E} {i : Nat} {own : List Nat} {d : D} {xs : List D} {g : D → D} (hs : ev C src ρ = .ok d) (hi : items .plain [d] = .ok xs) (h : ∀ x ∈ xs, ev C elt ((killS ρ own).set i (.val x)) = .ok (g x)) : ev C (.comp elt (.name i) .plain [src] [] own) ρ = .ok (.list (xs.map g)) := by
  rw [ev_comp, evs_cons, hs, Rs.bind_ok, evs_nil, Rs.bind_ok, Rs.bind_ok, hi, Rs.bind_ok, compL_map (g := g) (fun x hx => by
    rw [bindT_name, Rs.ofO_some, Rs.bind_ok, evT_nil, Rs.bind_ok, if_pos rfl, h x hx, Rs.bind_ok])]
  rfl
theorem bools_map {α : Type} (f : α → Bool) : ∀ xs : List α, boolsOf (xs.map fun x => .bool (f x)) = some (xs.map f)
  | [] => rfl
  | x :: xs => by
    show (boolsOf (xs.map fun x => .bool (f x))).map (f x :: ·) = _
    rw [bools_map f xs]; rfl
theorem ints_map {α : Type} (f : α → Int) : ∀ xs : List α, intsOf (xs.map fun x => .int (f x)) = some (xs.map f)
  | [] => rfl
  | x :: xs => by
    show (intsOf (xs.map fun x => .int (f x))).map (f x :: ·) = _
    rw [ints_map f xs]; rfl
@[simp] theorem bi_all_map {α : Type} (f : α → Bool) (xs : List α) : biD .all [.list (xs.map fun x => .bool (f x))] = .ok (.bool (xs.all f)) := by
  show (Rs.ofO (boolsOf (xs.map fun x => .bool (f x)))).bind (fun bs => Rs.ok (PyData.bool (bs.all id))) = _
  rw [bools_map]
  simp [List.all_map]
@[simp] theorem bi_any_map {α : Type} (f : α → Bool) (xs : List α) : biD .any [.list (xs.map fun x => .bool (f x))] = .ok (.bool (xs.any f)) := by
  show (Rs.ofO (boolsOf (xs.map fun x => .bool (f x)))).bind (fun bs => Rs.ok (PyData.bool (bs.any id))) = _
  rw [bools_map]
  simp [List.any_map]
@[simp] theorem bi_sum_map {α : Type} (f : α → Int) (xs : List α) : biD .sum [.list (xs.map fun x => .int (f x))] = .ok (.int (xs.map f).sum) := by
  show (Rs.ofO (intsOf (xs.map fun x => .int (f x)))).bind (fun bs => Rs.ok (PyData.int bs.sum)) = _
  rw [ints_map]
  rfl
@[simp] theorem bi_len_l (xs : List D) : biD .len [.list xs] = .ok (.int xs.length) := rfl
@[simp] theorem bi_len_t (xs : List D) : biD .len [.tuple xs] = .ok (.int xs.length) := rfl
theorem bi_len_s {s : Str} (h : s.length ≤ 1000) : biD .len [.str s] = .ok (.int s.length) := by
  show Rs.guard (decide (s.length ≤ line)) _ = _
  rw [decide_eq_true (Nat.le_trans h (by decide)), Rs.guard_true]
@[simp] theorem bi_tuple_l (xs : List D) : biD .tuple [.list xs] = .ok (.tuple xs) := rfl
@[simp] theorem bi_tuple_t (xs : List D) : biD .tuple [.tuple xs] = .ok (.tuple xs) := rfl
@[simp] theorem bi_list_l (xs : List D) : biD .list [.list xs] = .ok (.list xs) := rfl
@[simp] theorem bi_list_t (xs : List D) : biD .list [.tuple xs] = .ok (.list xs) := rfl
@[simp] theorem bi_min (i j : Int) : biD .min2 [.int i, .int j] = .ok (.int (if j < i then j else i)) := rfl
@[simp] theorem cmp_lt (i j : Int) : cmpD .lt (.int i) (.int j) = .ok (decide (i < j)) := rfl
@[simp] theorem cmp_le (i j : Int) : cmpD .le (.int i) (.int j) = .ok (decide (i ≤ j)) := rfl
@[simp] theorem cmp_gt (i j : Int) : cmpD .gt (.int i) (.int j) = .ok (decide (j < i)) := rfl
@[simp] theorem cmp_ge (i j : Int) : cmpD .ge (.int i) (.int j) = .ok (decide (j ≤ i)) := rfl
theorem cmp_eq {a b : D} (h : a.depth ≤ 64 ∨ b.depth ≤ 64) : cmpD .eq a b = .ok (PyData.eqv a b) := by
  show Rs.guard _ _ = _
  rw [decide_eq_true (by rcases h with h | h <;> omega), Rs.guard_true]
theorem cmp_ne {a b : D} (h : a.depth ≤ 64 ∨ b.depth ≤ 64) : cmpD .ne a b = .ok (!PyData.eqv a b) := by
  show (cmpD .eq a b).bind _ = _
  rw [cmp_eq h]; rfl
@[simp] theorem cmp_eq_i (i j : Int) : cmpD .eq (.int i) (.int j) = .ok (decide (i = j)) := by
  rw [cmp_eq (.inl (Nat.zero_le _))]
  simp only [PyData.eqv]
  rfl
@[simp] theorem cmp_ne_i (i j : Int) : cmpD .ne (.int i) (.int j) = .ok (!decide (i = j)) := by
  rw [cmp_ne (.inl (Nat.zero_le _))]
  simp only [PyData.eqv]
  rfl
theorem cmp_in_t {a : D} {ds : List D} (h : a.depth ≤ 64 ∨ PyData.depthAll ds ≤ 64) : cmpD .isin a (.tuple ds) = .ok (ds.any fun z => PyData.eqv z a) := by
  show Rs.guard _ _ = _
  rw [decide_eq_true (by rcases h with h | h <;> omega), Rs.guard_true]
theorem cmp_in_l {a : D} {ds : List D} (h : a.depth ≤ 64 ∨ PyData.depthAll ds ≤ 64) : cmpD .isin a (.list ds) = .ok (ds.any fun z => PyData.eqv z a) := by
  show Rs.guard _ _ = _
  rw [decide_eq_true (by rcases h with h | h <;> omega), Rs.guard_true]
theorem cmp_notin {a b : D} {k : Bool} (h : cmpD .isin a b = .ok k) : cmpD .notin a b = .ok (!k) := by
  show (cmpD .isin a b).bind _ = _
  rw [h]; rfl
@[simp] theorem bin_add_i (i j : Int) : binD .add (.int i) (.int j) = .ok (.int (i + j)) := rfl
@[simp] theorem bin_sub_i (i j : Int) : binD .sub (.int i) (.int j) = .ok (.int (i - j)) := rfl
theorem bin_mul_i {i j : Int} (h : small64 i = true ∨ small64 j = true) : binD .mul (.int i) (.int j) = .ok (.int (i * j)) := by
  show Rs.guard _ _ = _
  rw [Bool.or_eq_true_iff.mpr h, Rs.guard_true]
theorem bin_add_t {xs ys : List D} (h : xs.length + ys.length ≤ line) : binD .add (.tuple xs) (.tuple ys) = .ok (.tuple (xs ++ ys)) := by
  show Rs.guard _ _ = _
  rw [decide_eq_true h, Rs.guard_true]
theorem bin_add_l {xs ys : List D} (h : xs.length + ys.length ≤ line) : binD .add (.list xs) (.list ys) = .ok (.list (xs ++ ys)) := by
  show Rs.guard _ _ = _
  rw [decide_eq_true h, Rs.guard_true]
@[simp] theorem it_pl_l (xs : List D) : items .plain [.list xs] = .ok xs := rfl
@[simp] theorem it_pl_t (xs : List D) : items .plain [.tuple xs] = .ok xs := rfl
@[simp] theorem isc_non (d : D) : isD d .none = .ok (match d with | .none => true | _ => false) := rfl
@[simp] theorem isc_bl (b k : Bool) : isD (.bool b) (.bool k) = .ok (b == k) := rfl
@[simp] theorem ty_none_tuple : isTy .none .tuple = false := rfl
@[simp] theorem ty_none_str : isTy .none .str = false := rfl
@[simp] theorem ty_none_int : isTy .none .int = false := rfl
@[simp] theorem ty_none_bool : isTy .none .bool = false := rfl
@[simp] theorem ty_bool_tuple (b : Bool) : isTy (.bool b) .tuple = false := rfl
@[simp] theorem ty_bool_str (b : Bool) : isTy (.bool b) .str = false := rfl
@[simp] theorem ty_bool_int (b : Bool) : isTy (.bool b) .int = true := rfl
@[simp] theorem ty_bool_bool (b : Bool) : isTy (.bool b) .bool = true := rfl
@[simp] theorem ty_int_tuple (i : Int) : isTy (.int i) .tuple = false := rfl
@[simp] theorem ty_int_str (i : Int) : isTy (.int i) .str = false := rfl
@[simp] theorem ty_int_int (i : Int) : isTy (.int i) .int = true := rfl
@[simp] theorem ty_int_bool (i : Int) : isTy (.int i) .bool = false := rfl
@[simp] theorem ty_str_tuple (s : Str) : isTy (.str s) .tuple = false := rfl
@[simp] theorem ty_str_str (s : Str) : isTy (.str s) .str = true := rfl
@[simp] theorem ty_str_int (s : Str) : isTy (.str s) .int = false := rfl
@[simp] theorem ty_str_bool (s : Str) : isTy (.str s) .bool = false := rfl
@[simp] theorem ty_list_tuple (xs : List D) : isTy (.list xs) .tuple = false := rfl
@[simp] theorem ty_list_str (xs : List D) : isTy (.list xs) .str = false := rfl
@[simp] theorem ty_list_int (xs : List D) : isTy (.list xs) .int = false := rfl
@[simp] theorem ty_list_bool (xs : List D) : isTy (.list xs) .bool = false := rfl
@[simp] theorem ty_tuple_tuple (xs : List D) : isTy (.tuple xs) .tuple = true := rfl
@[simp] theorem ty_tuple_str (xs : List D) : isTy (.tuple xs) .str = false := rfl
@[simp] theorem ty_tuple_int (xs : List D) : isTy (.tuple xs) .int = false := rfl
@[simp] theorem ty_tuple_bool (xs : List D) : isTy (.tuple xs) .bool = false := rfl
@[simp] theorem ty_dict_tuple (kvs : List (D × D)) : isTy (.dict kvs) .tuple = false := rfl
@[simp] theorem ty_dict_str (kvs : List (D × D)) : isTy (.dict kvs) .str = false := rfl
@[simp] theorem ty_dict_int (kvs : List (D × D)) : isTy (.dict kvs) .int = false := rfl
@[simp] theorem ty_dict_bool (kvs : List (D × D)) : isTy (.dict kvs) .bool = false := rfl
theorem in_str1 (c : Nat) (z : Str) : cmpD .isin (.str ⟨#[c]⟩) (.str z) = .ok (decide (c ∈ z.cps.toList)) := rfl
theorem str_beq (s t : Str) : (s == t) = decide (s = t) := by
  by_cases h : s = t
  · subst h; simp
  · simp [h]
@[simp] theorem loopL_nil (body : En → Fl) (tg : Tg) (kill : List Nat) : loopL body tg kill [] ρ = .next ρ := rfl
theorem loopL_cons (body : En → Fl) (tg : Tg) (kill : List Nat) (x : D) (xs : List D) : loopL body tg kill (x :: xs) ρ = (Rs.ofO (bindT tg x ρ)).fl fun ρ1 => (body ρ1).seq fun ρ2 => loopL body tg kill xs (killS ρ2 kill) := rfl
theorem loopL_one (body : En → Fl) (tg : Tg) (kill : List Nat) (x : D) (xs : List D) : loopL body tg kill (x :: xs) ρ = (loopL body tg kill [x] ρ).seq (loopL body tg kill xs) := by
  rw [loopL_cons, loopL_cons]
  cases Rs.ofO (bindT tg x ρ) with
  | bad => rfl
  | exc c => rfl
  | ok ρ1 =>
    rw [Rs.fl_ok, Rs.fl_ok]
    cases body ρ1 with
    | next ρ2 => rw [Fl.seq_next, Fl.seq_next, loopL_nil, Fl.seq_next]
    | ret d => rfl
    | exc c => rfl
    | bad => rfl
/-- a loop that only ever goes on, with a state a -/
theorem loop_inv {α : Type} {body : En → Fl} {tg : Tg} {kill : List Nat} (env : α → En) (I : Nat → α → Prop) (step : α → D → α) : ∀ (xs : List D) (i : Nat) (a : α), I i a →
    (∀ j a x, xs[j]? = some x → I (i + j) a → I (i + j + 1) (step a x) ∧ loopL body tg kill [x] (env a) = .next (env (step a x))) → loopL body tg kill xs (env a) = .next (env (xs.foldl step a)) ∧ I (i + xs.length) (xs.foldl step a)
  | [], i, a, h, _ => ⟨rfl, h⟩
  | x :: xs, i, a, h, hs => by
    obtain ⟨h1, h2⟩ := hs 0 a x rfl h
    have e : loopL body tg kill (x :: xs) (env a) = loopL body tg kill xs (env (step a x)) := by
      rw [loopL_cons] at h2 ⊢
      cases eb : Rs.ofO (bindT tg x (env a)) with
      | bad => rw [eb] at h2; cases h2
      | exc c => rw [eb] at h2; cases h2
      | ok ρ1 =>
        rw [eb] at h2
        rw [Rs.fl_ok] at h2 ⊢
        cases eq : body ρ1 with
        | next ρ2 =>
          rw [eq, Fl.seq_next] at h2
          rw [Fl.seq_next]
          rw [loopL_nil] at h2
          have h2 := Fl.next.inj h2
          rw [h2]
        | ret d => rw [eq] at h2; cases h2
        | exc c => rw [eq] at h2; cases h2
        | bad => rw [eq] at h2; cases h2
    have q := loop_inv (body := body) (tg := tg) (kill := kill) env I step xs (i + 1) (step a x) h1 (fun j a' y hy hI => by
      have := hs (j + 1) a' y hy (by rw [show i + (j + 1) = i + 1 + j by omega]; exact hI)
      rw [show i + (j + 1) = i + 1 + j by omega] at this
      exact this)
    rw [e, List.foldl_cons, List.length_cons, show i + (xs.length + 1) = i + 1 + xs.length by omega]
    exact q
end
section
variable {ρ : En}
theorem loop_rel {body : En → Fl} {tg : Tg} {kill : List Nat} {I : Nat → En → Prop} : ∀ (xs : List D) (i : Nat) (ρ : En), I i ρ →
    (∀ j ρ x, xs[j]? = some x → I (i + j) ρ → ∃ ρ', loopL body tg kill [x] ρ = .next ρ' ∧ I (i + j + 1) ρ') → ∃ ρ', loopL body tg kill xs ρ = .next ρ' ∧ I (i + xs.length) ρ'
  | [], i, ρ, h, _ => ⟨ρ, rfl, h⟩
  | x :: xs, i, ρ, h, hs => by
    obtain ⟨ρ1, e1, h1⟩ := hs 0 ρ x rfl h
    obtain ⟨ρ2, e2, h2⟩ := loop_rel (I := I) xs (i + 1) ρ1 h1 (fun j ρ x hx hI => by
      have := hs (j + 1) ρ x hx (by rw [show i + (j + 1) = i + 1 + j by omega]; exact hI)
      rw [show i + (j + 1) = i + 1 + j by omega] at this
      exact this)
    refine ⟨ρ2, by rw [loopL_one, e1]; exact e2, ?_⟩
    rw [List.length_cons, show i + (xs.length + 1) = i + 1 + xs.length by omega]
    exact h2
theorem it_r1 {n : Int} (h0 : 0 ≤ n) (h1 : n ≤ 1000) : items .range1 [.int n] = .ok ((List.range n.toNat).map fun (i : Nat) => .int (i : Int)) := by
  show Rs.guard (inRange n && decide (n.toNat ≤ line)) _ = _
  have e : (inRange n && decide (n.toNat ≤ line)) = true := by
    unfold inRange
    simp only [Bool.and_eq_true, decide_eq_true_eq, line_eq]
    omega
  rw [e, Rs.guard_true]
theorem r1_at {n : Nat} {j : Nat} {x : D} (h : ((List.range n).map fun (i : Nat) => (.int (i : Int) : D))[j]? = some x) : x = .int j ∧ j < n := by
  rw [List.getElem?_map] at h
  cases e : (List.range n)[j]? with
  | none => rw [e] at h; cases h
  | some i =>
    rw [e] at h
    have := List.getElem?_eq_some_iff.mp e
    obtain ⟨hj, e2⟩ := this
    rw [List.getElem_range] at e2
    subst e2
    cases h
    exact ⟨rfl, by simpa using hj⟩
end
/-- a while that goes down -/
theorem whl_dn {test : En → Rs Bool} {body : En → Fl} {kill : List Nat} {I : Nat → En → Prop} (h : ∀ n ρ, I n ρ → test ρ = .ok (decide (0 < n)) ∧ (0 < n → ∃ n' ρ2, n' < n ∧ body ρ = .next ρ2 ∧ I n' (killS ρ2 kill))) : ∀ (N n : Nat) (ρ : En), n < N → I n ρ → ∃ ρ', whlL test body kill N ρ = .next ρ' ∧ I 0 ρ'
  | N + 1, n, ρ, hn, hi => by
    obtain ⟨h1, h2⟩ := h n ρ hi
    rw [whlL, h1, Rs.fl_ok]
    by_cases hp : 0 < n
    · obtain ⟨n', ρ2, a1, a2, a3⟩ := h2 hp
      rw [decide_eq_true hp, if_pos rfl, a2, Fl.seq_next]
      exact whl_dn h N n' _ (by omega) a3
    · have e : n = 0 := by omega
      subst e
      exact ⟨ρ, rfl, hi⟩
/-! plain data, bounded -/
def Wf : Nat → D → Prop
  | 0, _ => False
  | n + 1, d => match d with
    | .none => True
    | .bool _ => True
    | .int _ => True
    | .str s => s.length ≤ 1000
    | .list xs => xs.length ≤ 1000 ∧ ∀ x ∈ xs, Wf n x
    | .tuple xs => xs.length ≤ 1000 ∧ ∀ x ∈ xs, Wf n x
    | .dict _ => False
theorem Wf.mono : ∀ {n : Nat} {d : D}, Wf n d → Wf (n + 1) d
  | n + 1, .none, _ => trivial
  | n + 1, .bool _, _ => trivial
  | n + 1, .int _, _ => trivial
  | n + 1, .str _, h => h
  | n + 1, .list xs, h => ⟨h.1, fun x hx => (h.2 x hx).mono⟩
  | n + 1, .tuple xs, h => ⟨h.1, fun x hx => (h.2 x hx).mono⟩
  | n + 1, .dict _, h => h.elim
theorem Wf.le {n m : Nat} {d : D} (h : Wf n d) (hm : n ≤ m) : Wf m d := by
  obtain ⟨k, rfl⟩ := Nat.exists_eq_add_of_le hm
  clear hm
  induction k with
  | zero => exact h
  | succ k ih => exact ih.mono
theorem depthAll_le {n : Nat} : ∀ {xs : List D}, (∀ x ∈ xs, x.depth ≤ n) → PyData.depthAll xs ≤ n
  | [], _ => Nat.zero_le _
  | x :: xs, h => by
    show max x.depth (PyData.depthAll xs) ≤ n
    exact Nat.max_le.mpr ⟨h x (.head _), depthAll_le fun y hy => h y (.tail _ hy)⟩
theorem Wf.depth : ∀ {n : Nat} {d : D}, Wf n d → d.depth ≤ n
  | n + 1, .none, _ => Nat.zero_le _
  | n + 1, .bool _, _ => Nat.zero_le _
  | n + 1, .int _, _ => Nat.zero_le _
  | n + 1, .str _, h => Nat.zero_le _
  | n + 1, .list xs, h => Nat.succ_le_succ (depthAll_le fun x hx => (h.2 x hx).depth)
  | n + 1, .tuple xs, h => Nat.succ_le_succ (depthAll_le fun x hx => (h.2 x hx).depth)
  | n + 1, .dict _, h => h.elim
/-! the seeds' mixing -/
def mixI (c p m : Int) : Int := (c * 48271 % p) * ((c * 48271 % p) + 7) % p % m
theorem mixI_lt {c p m : Int} (h : 0 < m) : 0 ≤ mixI c p m ∧ mixI c p m < m := ⟨Int.emod_nonneg _ (by omega), Int.emod_lt_of_pos _ h⟩
theorem atI_nn {α : Type} {xs : List α} {i : Int} (h0 : 0 ≤ i) : atI xs i = xs[i.toNat]? := by
  unfold atI ixN
  rw [if_pos h0]
  by_cases h1 : i < (xs.length : Int)
  · rw [if_pos h1]; rfl
  · rw [if_neg h1, List.getElem?_eq_none (by omega)]; rfl
/-! a call: no match over the body's outcome (the kernel would run the body) -/
def Fl.toRs : Fl → Rs D
  | .next _ => .ok .none
  | .ret x => .ok x
  | .exc c => .exc c
  | .bad => .bad
@[simp] theorem toRs_next (ρ : En) : Fl.toRs (.next ρ) = .ok .none := rfl
@[simp] theorem toRs_ret (x : D) : Fl.toRs (.ret x) = .ok x := rfl
@[simp] theorem toRs_exc (c : Str) : Fl.toRs (.exc c) = .exc c := rfl
@[simp] theorem toRs_bad : Fl.toRs .bad = .bad := rfl
theorem runB_eq (C : Nat → List D → Rs D) (d : Fd) (args : List D) : runB C d args = .guard (decide (args.length = d.np)) (Fl.toRs (evSs C d.body (args.map .val ++ List.replicate (d.nn - args.length) .no))) := by
  unfold runB
  congr 1
end Pu
/-! trees, nodes and paths, typed; what a path finds -/
namespace Pu
open PySem L2
inductive Tr where
  | mk (l : Str) (ks : List Tr)
namespace Tr
def let_ : Tr → Str
  | .mk l _ => l
def kids : Tr → List Tr
  | .mk _ ks => ks
end Tr
abbrev Node := List Nat
def encN (n : Node) : D := .tuple (n.map fun (k : Nat) => .int (k : Int))
/-- the kids, with their nodes -/
def kidsFrom (n : Node) : Nat → List Tr → List (Node × Tr)
  | _, [] => []
  | i, k :: ks => (n ++ [i], k) :: kidsFrom n (i + 1) ks
def kidsAt (x : Node × Tr) : List (Node × Tr) := kidsFrom x.1 0 x.2.kids
mutual
/-- all nodes, from above -/
def allT (n : Node) : Tr → List (Node × Tr)
  | .mk l ks => (n, .mk l ks) :: allF n 0 ks
def allF (n : Node) (i : Nat) : List Tr → List (Node × Tr)
  | [] => []
  | k :: ks => allT (n ++ [i]) k ++ allF n (i + 1) ks
end
def Tr.sub : Tr → Node → Option Tr
  | t, [] => some t
  | t, i :: r => match t.kids[i]? with
    | some k => k.sub r
    | none => none
theorem allT_eq (x : Node × Tr) : allT x.1 x.2 = x :: (kidsAt x).flatMap fun y => allT y.1 y.2 := by
  obtain ⟨n, l, ks⟩ := x
  rw [allT]
  congr 1
  show allF n 0 ks = (kidsFrom n 0 ks).flatMap _
  generalize 0 = i
  induction ks generalizing i with
  | nil => rw [allF]; rfl
  | cons k ks ih => rw [allF, ih]; rfl
theorem sub_app : ∀ (t : Tr) (a b : Node), t.sub (a ++ b) = (t.sub a).bind fun s => s.sub b
  | t, [], b => rfl
  | t, i :: r, b => by
    rw [List.cons_append, Tr.sub, Tr.sub]
    cases t.kids[i]? with
    | none => rfl
    | some k => exact sub_app k r b
theorem kidsFrom_get (n : Node) : ∀ (ks : List Tr) (i j : Nat), (kidsFrom n i ks)[j]? = ks[j]?.map fun k => (n ++ [i + j], k)
  | [], i, j => by rw [kidsFrom]; rfl
  | k :: ks, i, 0 => by rw [kidsFrom]; rfl
  | k :: ks, i, j + 1 => by
    rw [kidsFrom, List.getElem?_cons_succ, List.getElem?_cons_succ, kidsFrom_get n ks (i + 1) j, show i + 1 + j = i + (j + 1) by omega]
theorem mem_kidsAt {x y : Node × Tr} : y ∈ kidsAt x ↔ ∃ j k, x.2.kids[j]? = some k ∧ y = (x.1 ++ [j], k) := by
  unfold kidsAt
  rw [List.mem_iff_getElem?]
  constructor
  · rintro ⟨j, h⟩
    rw [kidsFrom_get] at h
    obtain ⟨k, h1, h2⟩ := Option.map_eq_some_iff.mp h
    exact ⟨j, k, h1, by rw [← h2, Nat.zero_add]⟩
  · rintro ⟨j, k, h1, rfl⟩
    exact ⟨j, by rw [kidsFrom_get, h1, Nat.zero_add]; rfl⟩
theorem kids_sub {t : Tr} {x y : Node × Tr} (hx : t.sub x.1 = some x.2) (h : y ∈ kidsAt x) : t.sub y.1 = some y.2 := by
  obtain ⟨j, k, h1, rfl⟩ := mem_kidsAt.mp h
  show t.sub (x.1 ++ [j]) = some k
  rw [sub_app, hx]
  show (match x.2.kids[j]? with | some k => k.sub [] | none => none) = some k
  rw [h1]
  rfl
mutual
theorem all_sub {t : Tr} : ∀ (s : Tr) (n : Node), t.sub n = some s → ∀ y ∈ allT n s, t.sub y.1 = some y.2
  | .mk l ks, n, h, y, hy => by
    rw [allT] at hy
    cases hy with
    | head => exact h
    | tail _ hy =>
      exact all_subF ks n 0 (fun j k hk => by
        rw [sub_app, h, Nat.zero_add]
        show (match ks[j]? with | some k => k.sub [] | none => none) = some k
        rw [hk]; rfl) y hy
theorem all_subF {t : Tr} : ∀ (ks : List Tr) (n : Node) (i : Nat), (∀ j k, ks[j]? = some k → t.sub (n ++ [i + j]) = some k) → ∀ y ∈ allF n i ks, t.sub y.1 = some y.2
  | [], n, i, h, y, hy => by rw [allF] at hy; cases hy
  | k :: ks, n, i, h, y, hy => by
    rw [allF] at hy
    rcases List.mem_append.mp hy with hy | hy
    · exact all_sub k (n ++ [i]) (h 0 k rfl) y hy
    · exact all_subF ks n (i + 1) (fun j k hk => by
        rw [show i + 1 + j = i + (j + 1) by omega]
        exact h (j + 1) k hk) y hy
end
/-! trees as data -/
mutual
def Tr.enc : Tr → D
  | .mk l ks => .tuple [.str l, .tuple (Tr.encs ks)]
def Tr.encs : List Tr → List D
  | [] => []
  | k :: ks => k.enc :: Tr.encs ks
end
mutual
def Tr.size : Tr → Nat
  | .mk _ ks => 1 + Tr.sizes ks
def Tr.sizes : List Tr → Nat
  | [] => 0
  | k :: ks => k.size + Tr.sizes ks
end
abbrev letT (l : Str) : Prop := l = "a" ∨ l = "b" ∨ l = "c" ∨ l = "d"
mutual
def Tr.ok : Tr → Prop
  | .mk l ks => letT l ∧ Tr.oks ks
def Tr.oks : List Tr → Prop
  | [] => True
  | k :: ks => k.ok ∧ Tr.oks ks
end
theorem encs_map : ∀ ks : List Tr, Tr.encs ks = ks.map Tr.enc
  | [] => rfl
  | k :: ks => by rw [Tr.encs, encs_map ks]; rfl
theorem sizes_app : ∀ ks ls : List Tr, Tr.sizes (ks ++ ls) = Tr.sizes ks + Tr.sizes ls
  | [], ls => by rw [List.nil_append, Tr.sizes]; omega
  | k :: ks, ls => by rw [List.cons_append, Tr.sizes, Tr.sizes, sizes_app ks ls]; omega
theorem oks_iff : ∀ ks : List Tr, Tr.oks ks ↔ ∀ k ∈ ks, k.ok
  | [] => by rw [Tr.oks]; exact ⟨fun _ k hk => (by cases hk), fun _ => trivial⟩
  | k :: ks => by
    rw [Tr.oks, oks_iff ks]
    exact ⟨fun ⟨a, b⟩ x hx => by
      cases hx with
      | head => exact a
      | tail _ h => exact b x h, fun h => ⟨h k (.head _), fun x hx => h x (.tail _ hx)⟩⟩
theorem size_pos (t : Tr) : 1 ≤ t.size := by
  obtain ⟨l, ks⟩ := t
  rw [Tr.size]; omega
theorem len_sizes : ∀ ks : List Tr, ks.length ≤ Tr.sizes ks
  | [] => Nat.zero_le _
  | k :: ks => by
    have := len_sizes ks
    have := size_pos k
    rw [List.length_cons, Tr.sizes]; omega
theorem size_mem {k : Tr} : ∀ {ks : List Tr}, k ∈ ks → k.size ≤ Tr.sizes ks
  | _ :: ks, h => by
    rw [Tr.sizes]
    cases h with
    | head => omega
    | tail _ h => have := size_mem h; omega
theorem enc_eq (t : Tr) : t.enc = .tuple [.str t.let_, .tuple (t.kids.map Tr.enc)] := by
  obtain ⟨l, ks⟩ := t
  rw [Tr.enc, encs_map]; rfl
mutual
theorem allT_len : ∀ (t : Tr) (n : Node), (allT n t).length = t.size
  | .mk l ks, n => by rw [allT, List.length_cons, allF_len ks, Tr.size]; omega
theorem allF_len : ∀ (ks : List Tr) (n : Node) (i : Nat), (allF n i ks).length = Tr.sizes ks
  | [], n, i => by rw [allF, Tr.sizes]; rfl
  | k :: ks, n, i => by rw [allF, List.length_append, allT_len k, allF_len ks, Tr.sizes]
end
mutual
theorem allT_pre : ∀ (t : Tr) (m n : Node), allT (m ++ n) t = (allT n t).map fun y => (m ++ y.1, y.2)
  | .mk l ks, m, n => by rw [allT, allT, List.map_cons, allF_pre ks m n 0]
theorem allF_pre : ∀ (ks : List Tr) (m n : Node) (i : Nat), allF (m ++ n) i ks = (allF n i ks).map fun y => (m ++ y.1, y.2)
  | [], m, n, i => by rw [allF, allF]; rfl
  | k :: ks, m, n, i => by rw [allF, allF, List.map_append, ← allF_pre ks m n, List.append_assoc m n [i], allT_pre k m (n ++ [i])]
end
theorem kidsFrom_len (n : Node) : ∀ (ks : List Tr) (i : Nat), (kidsFrom n i ks).length = ks.length
  | [], i => rfl
  | k :: ks, i => by rw [kidsFrom, List.length_cons, List.length_cons, kidsFrom_len n ks]
mutual
theorem allT_dep : ∀ (t : Tr) (n : Node), ∀ y ∈ allT n t, y.1.length < n.length + t.size ∧ y.2.size ≤ t.size
  | .mk l ks, n, y, hy => by
    rw [allT] at hy
    rw [Tr.size]
    cases hy with
    | head => exact ⟨by show n.length < _; omega, by show (Tr.mk l ks).size ≤ _; rw [Tr.size]; omega⟩
    | tail _ hy => have := allF_dep ks n 0 y hy; omega
theorem allF_dep : ∀ (ks : List Tr) (n : Node) (i : Nat), ∀ y ∈ allF n i ks, y.1.length < n.length + 1 + Tr.sizes ks ∧ y.2.size ≤ Tr.sizes ks
  | [], n, i, y, hy => by rw [allF] at hy; cases hy
  | k :: ks, n, i, y, hy => by
    rw [allF] at hy
    rw [Tr.sizes]
    rcases List.mem_append.mp hy with hy | hy
    · have := allT_dep k (n ++ [i]) y hy
      rw [List.length_append, List.length_singleton] at this
      omega
    · have := allF_dep ks n (i + 1) y hy
      omega
end
/-- the nodes alone -/
def nodesT (t : Tr) : List Node := (allT [] t).map (·.1)
def belowN (y : Node × Tr) : List Node := (nodesT y.2).map fun (x : Node) => y.1 ++ x
theorem nodesT_eq (l : Str) (ks : List Tr) : nodesT (.mk l ks) = [] :: (kidsFrom [] 0 ks).flatMap belowN := by
  unfold nodesT
  have := allT_eq ([], .mk l ks)
  simp only at this
  rw [this, List.map_cons, List.map_flatMap]
  congr 1
  show (kidsFrom [] 0 ks).flatMap _ = _
  refine congrArg (fun f => List.flatMap f (kidsFrom [] 0 ks)) (funext fun y => ?_)
  have e := allT_pre y.2 y.1 []
  rw [List.append_nil] at e
  unfold belowN nodesT
  rw [e, List.map_map, List.map_map]
  rfl
theorem nodes_dep {t : Tr} {x : Node} (h : x ∈ nodesT t) : x.length < t.size := by
  obtain ⟨y, hy, rfl⟩ := List.mem_map.mp h
  have := (allT_dep t [] y hy).1
  rw [List.length_nil] at this
  omega
/-! paths -/
inductive St where
  | mk (deep : Bool) (l : Str) (ts : List (List St))
abbrev Pt := List St
namespace St
def deep : St → Bool
  | .mk d _ _ => d
def let_ : St → Str
  | .mk _ l _ => l
def tests : St → List Pt
  | .mk _ _ ts => ts
end St
def wayS (d : Bool) : Str := if d then "deep" else "in"
mutual
def St.enc : St → D
  | .mk d l ts => .tuple [.str (wayS d), .str l, .tuple (encTs ts)]
def encTs : List Pt → List D
  | [] => []
  | p :: ps => .tuple (encSs p) :: encTs ps
def encSs : Pt → List D
  | [] => []
  | s :: r => s.enc :: encSs r
end
def encP (p : Pt) : D := .tuple (encSs p)
theorem encSs_map : ∀ p : Pt, encSs p = p.map St.enc
  | [] => by rw [encSs]; rfl
  | s :: r => by rw [encSs, encSs_map r]; rfl
theorem encTs_map : ∀ ts : List Pt, encTs ts = ts.map encP
  | [] => by rw [encTs]; rfl
  | s :: r => by rw [encTs, encTs_map r]; rfl
/-- the places a step may go to -/
def cands (deep : Bool) (kids : List (Node × Tr)) : List (Node × Tr) := if deep then kids.flatMap fun y => allT y.1 y.2 else kids
mutual
def St.fit : St → Node × Tr → Bool
  | .mk _ l ts, x => x.2.let_ == l && testsB ts x
def testsB : List Pt → Node × Tr → Bool
  | [], _ => true
  | p :: ps, x => hasB p (kidsAt x) && testsB ps x
/-- whether a path finds something -/
def hasB : Pt → List (Node × Tr) → Bool
  | [], _ => true
  | s :: r, kids => (cands s.deep kids).any fun y => s.fit y && hasB r (kidsAt y)
end
/-- all ways -/
def waysK : Pt → List (Node × Tr) → List (List (Node × Tr))
  | [], _ => [[]]
  | s :: r, kids => ((cands s.deep kids).filter s.fit).flatMap fun y => (waysK r (kidsAt y)).map (y :: ·)
theorem hasB_ways : ∀ (p : Pt) (kids : List (Node × Tr)), hasB p kids = !(waysK p kids).isEmpty
  | [], kids => by rw [hasB]; rfl
  | s :: r, kids => by
    rw [hasB, waysK]
    generalize cands s.deep kids = xs
    induction xs with
    | nil => rfl
    | cons x xs ih =>
      rw [List.any_cons, List.filter_cons, ih, hasB_ways r]
      cases s.fit x with
      | false => rfl
      | true =>
        rw [Bool.true_and, if_pos rfl, List.flatMap_cons]
        cases waysK r (kidsAt x) with
        | nil => rfl
        | cons a b => rfl
theorem testsB_all : ∀ (ts : List Pt) (x : Node × Tr), testsB ts x = ts.all fun p => hasB p (kidsAt x)
  | [], x => by rw [testsB]; rfl
  | p :: ps, x => by rw [testsB, testsB_all ps]; rfl
/-! ways, step by step -/
abbrev Way := List (Node × Tr)
def kidsOf (k0 : List (Node × Tr)) (w : Way) : List (Node × Tr) := match w.getLast? with
  | none => k0
  | some y => kidsAt y
def stepR (k0 : List (Node × Tr)) (s : St) (w : Way) : List Way := ((cands s.deep (kidsOf k0 w)).filter s.fit).map fun y => w ++ [y]
def stepsR (k0 : List (Node × Tr)) : Pt → List Way → List Way
  | [], rows => rows
  | s :: r, rows => stepsR k0 r (rows.flatMap (stepR k0 s))
theorem kidsOf_app (k0 : List (Node × Tr)) (w : Way) (y : Node × Tr) : kidsOf k0 (w ++ [y]) = kidsAt y := by
  unfold kidsOf
  rw [List.getLast?_append]
  rfl
theorem stepsR_eq (k0 : List (Node × Tr)) : ∀ (p : Pt) (rows : List Way), stepsR k0 p rows = rows.flatMap fun w => (waysK p (kidsOf k0 w)).map fun v => w ++ v
  | [], rows => by
    rw [stepsR]
    induction rows with
    | nil => rfl
    | cons w rows ih =>
      rw [List.flatMap_cons, ← ih, waysK, List.map_cons, List.append_nil]
      rfl
  | s :: r, rows => by
    rw [stepsR, stepsR_eq k0 r, List.flatMap_assoc]
    refine congrArg (fun f => List.flatMap f rows) (funext fun w => ?_)
    unfold stepR
    rw [waysK]
    generalize (cands s.deep (kidsOf k0 w)).filter s.fit = xs
    induction xs with
    | nil => rfl
    | cons x xs ih =>
      rw [List.map_cons, List.flatMap_cons, List.flatMap_cons, List.map_append, ih, kidsOf_app, List.map_map]
      congr 1
      refine List.map_congr_left fun v _ => ?_
      show w ++ [x] ++ v = w ++ x :: v
      rw [List.append_assoc]; rfl
theorem stepsR_nil (k0 : List (Node × Tr)) (p : Pt) : stepsR k0 p [[]] = waysK p k0 := by
  rw [stepsR_eq, List.flatMap_cons, List.flatMap_nil, List.append_nil]
  show (waysK p k0).map (fun v => [] ++ v) = _
  simp only [List.nil_append, List.map_id']
/-- the sum of the sizes -/
def szs (kids : List (Node × Tr)) : Nat := (kids.map fun y => y.2.size).sum
theorem cands_len (d : Bool) : ∀ kids : List (Node × Tr), (cands d kids).length ≤ szs kids
  | [] => by cases d <;> exact Nat.le_refl _
  | y :: ys => by
    have ih := cands_len d ys
    have h1 := size_pos y.2
    unfold szs at ih ⊢
    rw [List.map_cons, List.sum_cons]
    cases d with
    | false =>
      show ys.length + 1 ≤ _
      have ih : ys.length ≤ _ := ih
      omega
    | true =>
      show (List.flatMap (fun (z : Node × Tr) => allT z.1 z.2) (y :: ys)).length ≤ _
      have ih : (List.flatMap (fun (z : Node × Tr) => allT z.1 z.2) ys).length ≤ _ := ih
      rw [List.flatMap_cons, List.length_append, allT_len]
      omega
theorem szs_kidsFrom (n : Node) : ∀ (ks : List Tr) (i : Nat), szs (kidsFrom n i ks) = Tr.sizes ks
  | [], i => by rw [Tr.sizes]; rfl
  | k :: ks, i => by
    have := szs_kidsFrom n ks (i + 1)
    unfold szs at this ⊢
    rw [kidsFrom, List.map_cons, List.sum_cons, this, Tr.sizes]
theorem szs_kidsAt (y : Node × Tr) : szs (kidsAt y) < y.2.size := by
  obtain ⟨n, l, ks⟩ := y
  unfold kidsAt
  rw [szs_kidsFrom]
  show Tr.sizes ks < (Tr.mk l ks).size
  rw [Tr.size]; omega
theorem mem_szs {z : Node × Tr} : ∀ {kids : List (Node × Tr)}, z ∈ kids → z.2.size ≤ szs kids
  | a :: as, h => by
    have e : szs (a :: as) = a.2.size + szs as := by unfold szs; rw [List.map_cons, List.sum_cons]
    rw [e]
    cases h with
    | head => omega
    | tail _ h => have := mem_szs h; omega
theorem cands_size {d : Bool} {kids : List (Node × Tr)} {y : Node × Tr} (h : y ∈ cands d kids) : y.2.size ≤ szs kids := by
  unfold cands at h
  split at h
  · obtain ⟨z, hz, hy⟩ := List.mem_flatMap.mp h
    exact Nat.le_trans (allT_dep z.2 z.1 y hy).2 (mem_szs hz)
  · exact mem_szs h
theorem flat_len {α β : Type} {f : α → List β} {B : Nat} : ∀ {xs : List α}, (∀ x ∈ xs, (f x).length ≤ B) → (xs.flatMap f).length ≤ xs.length * B
  | [], _ => by rw [List.flatMap_nil]; exact Nat.zero_le _
  | x :: xs, h => by
    have h1 := h x (.head _)
    have h2 := flat_len (xs := xs) fun y hy => h y (.tail _ hy)
    rw [List.flatMap_cons, List.length_append, List.length_cons, Nat.succ_mul]
    omega
theorem ways_len : ∀ (p : Pt) (kids : List (Node × Tr)) (n : Nat), szs kids ≤ n → (waysK p kids).length ≤ n ^ p.length
  | [], kids, n, h => by rw [waysK]; exact Nat.le_refl _
  | s :: r, kids, n, h => by
    rw [waysK]
    have h1 := cands_len s.deep kids
    have h2 := List.length_filter_le s.fit (cands s.deep kids)
    have h3 := flat_len (f := fun y => (waysK r (kidsAt y)).map (y :: ·)) (xs := (cands s.deep kids).filter s.fit) (B := n ^ r.length) fun y hy => by
      rw [List.length_map]
      have := cands_size (List.mem_filter.mp hy).1
      have := szs_kidsAt y
      exact ways_len r _ n (by omega)
    refine Nat.le_trans h3 ?_
    rw [List.length_cons, Nat.pow_succ, Nat.mul_comm (n ^ r.length)]
    exact Nat.mul_le_mul_right _ (by omega)
theorem sub_size : ∀ (nd : Node) (t s : Tr), t.sub nd = some s → s.size + nd.length ≤ t.size
  | [], t, s, h => by cases h; exact Nat.le_refl _
  | i :: r, t, s, h => by
    rw [Tr.sub] at h
    split at h
    · rename_i c hc
      have h1 := sub_size r c s h
      have h2 := size_mem (List.mem_of_getElem? hc)
      obtain ⟨l, ks⟩ := t
      have h2 : c.size ≤ Tr.sizes ks := h2
      rw [Tr.size, List.length_cons]
      omega
    · cases h
/-- where a path begins -/
def Base (t : Tr) (B : D) (kids : List (Node × Tr)) : Prop := (B = .none ∧ kids = [([], t)]) ∨ ∃ nd s, t.sub nd = some s ∧ B = encN nd ∧ kids = kidsAt (nd, s)
theorem base_szs {t : Tr} {B : D} {kids : List (Node × Tr)} (h : Base t B kids) : szs kids ≤ t.size := by
  rcases h with ⟨_, rfl⟩ | ⟨nd, s, h, _, rfl⟩
  · exact Nat.le_refl _
  · have h1 := sub_size nd t s h
    have h2 := szs_kidsAt (nd, s)
    have h2 : szs (kidsAt (nd, s)) < s.size := h2
    omega
theorem base_sub {t : Tr} {B : D} {kids : List (Node × Tr)} (h : Base t B kids) : ∀ y ∈ kids, t.sub y.1 = some y.2 := by
  intro y hy
  rcases h with ⟨_, rfl⟩ | ⟨nd, s, h, _, rfl⟩
  · cases hy with
    | head => rfl
    | tail _ hy => cases hy
  · exact kids_sub (x := (nd, s)) h hy
theorem cands_sub {t : Tr} {d : Bool} {kids : List (Node × Tr)} (h : ∀ y ∈ kids, t.sub y.1 = some y.2) : ∀ y ∈ cands d kids, t.sub y.1 = some y.2 := by
  intro y hy
  unfold cands at hy
  split at hy
  · obtain ⟨z, hz, hy⟩ := List.mem_flatMap.mp hy
    exact all_sub z.2 z.1 (h z hz) y hy
  · exact h y hy
def encW (w : List (Node × Tr)) : D := .tuple (w.map fun y => encN y.1)
/-! how many steps; how long -/
mutual
def St.num : St → Nat
  | .mk _ _ ts => 1 + numTs ts
def numTs : List Pt → Nat
  | [] => 0
  | p :: ps => numP p + numTs ps
def numP : Pt → Nat
  | [] => 0
  | s :: r => s.num + numP r
end
mutual
/-- no path in it has more than L steps in a row -/
def St.lenOk (L : Nat) : St → Prop
  | .mk _ _ ts => lenTs L ts
def lenTs (L : Nat) : List Pt → Prop
  | [] => True
  | p :: ps => (p.length ≤ L ∧ lenSs L p) ∧ lenTs L ps
def lenSs (L : Nat) : Pt → Prop
  | [] => True
  | s :: r => s.lenOk L ∧ lenSs L r
end
def lenP (L : Nat) (p : Pt) : Prop := p.length ≤ L ∧ lenSs L p
theorem lenTs_iff (L : Nat) : ∀ ts : List Pt, lenTs L ts ↔ ∀ p ∈ ts, lenP L p
  | [] => by rw [lenTs]; exact ⟨fun _ p hp => (by cases hp), fun _ => trivial⟩
  | p :: ps => by
    rw [lenTs, lenTs_iff L ps]
    exact ⟨fun ⟨a, b⟩ x hx => by
      cases hx with
      | head => exact a
      | tail _ h => exact b x h, fun h => ⟨h p (.head _), fun x hx => h x (.tail _ hx)⟩⟩
theorem numTs_mem {p : Pt} : ∀ {ts : List Pt}, p ∈ ts → numP p ≤ numTs ts
  | _ :: ts, h => by
    rw [numTs]
    cases h with
    | head => omega
    | tail _ h => have := numTs_mem h; omega
theorem num_mem {s : St} : ∀ {p : Pt}, s ∈ p → s.num ≤ numP p
  | _ :: r, h => by
    rw [numP]
    cases h with
    | head => omega
    | tail _ h => have := num_mem h; omega
theorem lenSs_iff (L : Nat) : ∀ p : Pt, lenSs L p ↔ ∀ s ∈ p, s.lenOk L
  | [] => by rw [lenSs]; exact ⟨fun _ p hp => (by cases hp), fun _ => trivial⟩
  | p :: ps => by
    rw [lenSs, lenSs_iff L ps]
    exact ⟨fun ⟨a, b⟩ x hx => by
      cases hx with
      | head => exact a
      | tail _ h => exact b x h, fun h => ⟨h p (.head _), fun x hx => h x (.tail _ hx)⟩⟩
theorem tests_of {p q : Pt} {s : St} (h : s ∈ p) (hq : q ∈ s.tests) : numP q < numP p ∧ ∀ L, lenP L p → lenP L q := by
  have h1 := num_mem h
  obtain ⟨d, l, ts⟩ := s
  have hq : q ∈ ts := hq
  have h2 := numTs_mem hq
  rw [St.num] at h1
  refine ⟨by omega, fun L hp => ?_⟩
  have := (lenSs_iff L p).mp hp.2 _ h
  rw [St.lenOk] at this
  exact (lenTs_iff L ts).mp this q hq
end Pu
/-! loops and comprehensions over typed lists -/
namespace Pu
open PySem L2
section
variable {C : Nat → List D → Rs D} {ρ : En}
theorem compL_T {α : Type} {f : D → Rs (Option D)} {enc : α → D} {g : α → D} : ∀ {xs : List α}, (∀ x ∈ xs, f (enc x) = .ok (some (g x))) → compL f (xs.map enc) = .ok (xs.map g)
  | [], _ => rfl
  | x :: xs, h => by
    rw [List.map_cons, compL, h x (.head _), Rs.bind_ok, compL_T fun y hy => h y (.tail _ hy), Rs.bind_ok, List.map_cons]
theorem compT {α : Type} {elt : E} {src : List E} {i : Nat} {own : List Nat} {k : Ik} {ds : List D} {xs : List α} {enc g : α → D} (hs : evs C src ρ = .ok ds) (hi : items k ds = .ok (xs.map enc)) (h : ∀ x ∈ xs, ev C elt ((killS ρ own).set i (.val (enc x))) = .ok (g x)) : ev C (.comp elt (.name i) k src [] own) ρ = .ok (.list (xs.map g)) := by
  rw [ev_comp, hs, Rs.bind_ok, hi, Rs.bind_ok, compL_T (g := g) (fun x hx => by
    rw [bindT_name, Rs.ofO_some, Rs.bind_ok, evT_nil, Rs.bind_ok, if_pos rfl, h x hx, Rs.bind_ok])]
  rfl
theorem compL_F {α : Type} {f : D → Rs (Option D)} {enc : α → D} {p : α → Bool} {g : α → D} : ∀ {xs : List α}, (∀ x ∈ xs, f (enc x) = .ok (if p x then some (g x) else none)) → compL f (xs.map enc) = .ok ((xs.filter p).map g)
  | [], _ => rfl
  | x :: xs, h => by
    rw [List.map_cons, compL, h x (.head _), Rs.bind_ok, compL_F fun y hy => h y (.tail _ hy), Rs.bind_ok, List.filter_cons]
    cases p x <;> rfl
theorem loop_flat {α β : Type} {body : En → Fl} {tg : Tg} {kill : List Nat} {env : List β → En} {enc : α → D} {f : α → List β} {B : Nat} : ∀ (xs : List α) (acc : List β), acc.length + (xs.flatMap f).length ≤ B →
    (∀ x ∈ xs, ∀ acc, acc.length + (f x).length ≤ B → loopL body tg kill [enc x] (env acc) = .next (env (acc ++ f x))) → loopL body tg kill (xs.map enc) (env acc) = .next (env (acc ++ xs.flatMap f))
  | [], acc, _, _ => by rw [List.flatMap_nil, List.append_nil]; rfl
  | x :: xs, acc, hB, h => by
    rw [List.flatMap_cons, List.length_append] at hB
    rw [List.map_cons, loopL_one, h x (.head _) acc (by omega), Fl.seq_next, loop_flat xs (acc ++ f x) (by rw [List.length_append]; omega) fun y hy => h y (.tail _ hy), List.flatMap_cons, List.append_assoc]
end
def encKid (y : Node × Tr) : D := .tuple [.int ((y.1.getLastD 0 : Nat) : Int), y.2.enc]
theorem enum_kids (n : Node) : ∀ (ks : List Tr) (i : Nat), ((ks.map Tr.enc).mapIdx fun j x => (.tuple [.int ((i + j : Nat) : Int), x] : D)) = (kidsFrom n i ks).map encKid
  | [], i => rfl
  | k :: ks, i => by
    rw [List.map_cons, List.mapIdx_cons, kidsFrom, List.map_cons]
    have e := enum_kids n ks (i + 1)
    have f : (fun (j : Nat) (x : D) => (.tuple [.int ((i + (j + 1) : Nat) : Int), x] : D)) = fun j x => .tuple [.int ((i + 1 + j : Nat) : Int), x] := by
      funext j x
      rw [show i + (j + 1) = i + 1 + j by omega]
    rw [f, e]
    show _ :: _ = _ :: _
    congr 1
    show PyData.tuple [.int ((i + 0 : Nat) : Int), k.enc] = PyData.tuple [.int (((n ++ [i]).getLastD 0 : Nat) : Int), k.enc]
    rw [List.getLastD_concat, Nat.add_zero]
theorem items_kids (n : Node) (ks : List Tr) : items .enum [.tuple (ks.map Tr.enc)] = .ok ((kidsFrom n 0 ks).map encKid) := by
  rw [← enum_kids]
  simp only [Nat.zero_add]
  rfl
theorem mem_kids {n : Node} {ks : List Tr} {y : Node × Tr} (h : y ∈ kidsFrom n 0 ks) : y.1 = n ++ [y.1.getLastD 0] ∧ ks[y.1.getLastD 0]? = some y.2 := by
  obtain ⟨j, k, h1, rfl⟩ := (mem_kidsAt (x := (n, .mk "" ks))).mp h
  simp only [List.getLastD_concat]
  exact ⟨trivial, h1⟩
theorem kids_range (n : Node) : ∀ (ks : List Tr) (i : Nat), (kidsFrom n i ks).map (fun y => encN y.1) = (List.range ks.length).map fun j => encN (n ++ [i + j])
  | [], i => rfl
  | k :: ks, i => by
    rw [kidsFrom, List.map_cons, kids_range n ks (i + 1), List.length_cons, List.range_succ_eq_map, List.map_cons, List.map_map]
    congr 1
    refine List.map_congr_left fun j _ => ?_
    show encN (n ++ [i + 1 + j]) = encN (n ++ [i + (j + 1)])
    rw [show i + 1 + j = i + (j + 1) by omega]
theorem allT_ext {n : Node} {t : Tr} {y : Node × Tr} (h : y ∈ allT n t) : ∃ r, y.1 = n ++ r := by
  have e := allT_pre t n []
  rw [List.append_nil] at e
  rw [e] at h
  obtain ⟨z, _, rfl⟩ := List.mem_map.mp h
  exact ⟨_, rfl⟩
theorem below_eq (n : Node) (s : Tr) : ((nodesT s).filter fun x => !(x == [])).map (fun x => encN (n ++ x)) = (cands true (kidsAt (n, s))).map fun y => encN y.1 := by
  have e1 := allT_eq ([], s)
  have e2 := allT_eq (n, s)
  have e3 := allT_pre s n []
  rw [List.append_nil] at e3
  simp only at e1 e2
  rw [e3, e1, List.map_cons] at e2
  have e4 := (List.cons.inj e2).2
  unfold nodesT
  rw [e1, List.map_cons, List.filter_cons]
  rw [if_neg (by show ¬ (!(([] : Node) == [])) = true; decide), List.filter_eq_self.mpr]
  · show _ = ((kidsAt (n, s)).flatMap _).map _
    rw [← e4, List.map_map, List.map_map]
    rfl
  · intro a ha
    obtain ⟨y, hy, rfl⟩ := List.mem_map.mp ha
    obtain ⟨z, hz, hy⟩ := List.mem_flatMap.mp hy
    obtain ⟨j, k, _, rfl⟩ := mem_kidsAt.mp hz
    obtain ⟨r, hr⟩ := allT_ext hy
    rw [hr]
    rfl
theorem compF {C : Nat → List D → Rs D} {ρ : En} {α : Type} {elt c : E} {src : List E} {i : Nat} {own : List Nat} {k : Ik} {ds : List D} {xs : List α} {enc g : α → D} {p : α → Bool} (hs : evs C src ρ = .ok ds) (hi : items k ds = .ok (xs.map enc))
    (hc : ∀ x ∈ xs, ev C c ((killS ρ own).set i (.val (enc x))) = .ok (.bool (p x))) (h : ∀ x ∈ xs, p x = true → ev C elt ((killS ρ own).set i (.val (enc x))) = .ok (g x)) : ev C (.comp elt (.name i) k src [c] own) ρ = .ok (.list ((xs.filter p).map g)) := by
  rw [ev_comp, hs, Rs.bind_ok, hi, Rs.bind_ok, compL_F (p := p) (g := g) (fun x hx => by
    have h1 := hc x hx
    have h2 := h x hx
    cases hp : p x with
    | false =>
      rw [hp] at h1
      simp [h1]
    | true =>
      rw [hp] at h1
      simp [h1, h2 hp])]
  rfl
theorem flat_filter {α : Type} (p : α → Bool) : ∀ xs : List α, (xs.flatMap fun y => if p y then [y] else []) = xs.filter p
  | [] => rfl
  | x :: xs => by
    rw [List.flatMap_cons, flat_filter p xs, List.filter_cons]
    cases p x <;> rfl
theorem encN_nil : encN [] = .tuple [] := rfl
theorem encN_app (a b : Node) : encN (a ++ b) = .tuple ((a.map fun (k : Nat) => (.int (k : Int) : D)) ++ b.map fun (k : Nat) => .int (k : Int)) := by
  unfold encN; rw [List.map_append]
end Pu
/-! plain data: no truths, no dicts -/
namespace Pu
open PySem L2
mutual
def pd : D → Bool
  | .none => true
  | .bool _ => false
  | .int _ => true
  | .str _ => true
  | .list xs => pds xs
  | .tuple xs => pds xs
  | .dict _ => false
def pds : List D → Bool
  | [] => true
  | x :: xs => pd x && pds xs
end
theorem pds_iff : ∀ {xs : List D}, pds xs = true ↔ ∀ x ∈ xs, pd x = true
  | [] => ⟨fun _ x hx => (by cases hx), fun _ => by rw [pds]⟩
  | x :: xs => by
    rw [pds, Bool.and_eq_true, pds_iff (xs := xs)]
    exact ⟨fun ⟨a, b⟩ y hy => by
      cases hy with
      | head => exact a
      | tail _ h => exact b y h, fun h => ⟨h x (.head _), fun y hy => h y (.tail _ hy)⟩⟩
mutual
theorem eqv_iff : ∀ a b : D, pd a = true → pd b = true → (PyData.eqv a b = true ↔ a = b)
  | .none, b, _, hb => by cases b <;> simp [PyData.eqv]
  | .bool _, b, ha, hb => by rw [pd] at ha; cases ha
  | .int i, b, _, hb => by
    cases b with
    | bool k => rw [pd] at hb; cases hb
    | int j => simp [PyData.eqv]
    | _ => simp [PyData.eqv]
  | .str s, b, _, hb => by cases b <;> simp [PyData.eqv]
  | .list xs, b, ha, hb => by
    cases b with
    | list ys =>
      rw [pd] at ha hb
      simp only [PyData.eqv, eqvs_iff xs ys ha hb, PyData.list.injEq]
    | _ => simp [PyData.eqv]
  | .tuple xs, b, ha, hb => by
    cases b with
    | tuple ys =>
      rw [pd] at ha hb
      simp only [PyData.eqv, eqvs_iff xs ys ha hb, PyData.tuple.injEq]
    | _ => simp [PyData.eqv]
  | .dict _, b, ha, _ => by rw [pd] at ha; cases ha
theorem eqvs_iff : ∀ xs ys : List D, pds xs = true → pds ys = true → (PyData.eqvAll xs ys = true ↔ xs = ys)
  | [], [], _, _ => by simp [PyData.eqvAll]
  | [], y :: ys, _, _ => by simp [PyData.eqvAll]
  | x :: xs, [], _, _ => by simp [PyData.eqvAll]
  | x :: xs, y :: ys, ha, hb => by
    rw [pds, Bool.and_eq_true] at ha hb
    simp only [PyData.eqvAll, Bool.and_eq_true, eqv_iff x y ha.1 hb.1, eqvs_iff xs ys ha.2 hb.2, List.cons.injEq]
end
theorem eqv_refl {d : D} (h : pd d = true) : PyData.eqv d d = true := (eqv_iff d d h h).mpr rfl
/-- equal, through an encoding -/
theorem eqv_enc {α : Type} [DecidableEq α] {enc : α → D} (hp : ∀ a, pd (enc a) = true) (hi : ∀ a b, enc a = enc b → a = b) (a b : α) : PyData.eqv (enc a) (enc b) = decide (a = b) := by
  by_cases h : a = b
  · subst h
    rw [eqv_refl (hp a)]; simp
  · rw [decide_eq_false h]
    cases e : PyData.eqv (enc a) (enc b) with
    | false => rfl
    | true => exact absurd (hi a b ((eqv_iff _ _ (hp a) (hp b)).mp e)) h
theorem any_enc {α : Type} [DecidableEq α] {enc : α → D} (hp : ∀ a, pd (enc a) = true) (hi : ∀ a b, enc a = enc b → a = b) (a : α) : ∀ xs : List α, ((xs.map enc).any fun z => PyData.eqv z (enc a)) = decide (a ∈ xs)
  | [] => by simp
  | x :: xs => by
    rw [List.map_cons, List.any_cons, any_enc hp hi a xs, eqv_enc hp hi x a]
    by_cases h : x = a
    · subst h; simp
    · have h' : ¬ a = x := fun e => h e.symm
      simp [h, h']
/-! the encodings -/
theorem pd_encN (n : Node) : pd (encN n) = true := by
  unfold encN
  rw [pd, pds_iff]
  intro x hx
  obtain ⟨k, _, rfl⟩ := List.mem_map.mp hx
  rw [pd]
theorem map_inj {α : Type} {f : α → D} (h : ∀ a b, f a = f b → a = b) : ∀ {xs ys : List α}, xs.map f = ys.map f → xs = ys
  | [], [], _ => rfl
  | [], y :: ys, e => by cases e
  | x :: xs, [], e => by cases e
  | x :: xs, y :: ys, e => by
    rw [List.map_cons, List.map_cons] at e
    obtain ⟨e1, e2⟩ := List.cons.inj e
    rw [h x y e1, map_inj h e2]
theorem encN_inj {a b : Node} (h : encN a = encN b) : a = b := by
  unfold encN at h
  refine map_inj (f := fun (k : Nat) => (.int (k : Int) : D)) (fun a b e => ?_) (PyData.tuple.inj h)
  have := PyData.int.inj e
  omega
mutual
theorem pd_tr : ∀ t : Tr, pd t.enc = true
  | .mk l ks => by rw [Tr.enc, pd, pds, pds, pds, pd, pd, pds_trs ks]; rfl
theorem pds_trs : ∀ ks : List Tr, pds (Tr.encs ks) = true
  | [] => by rw [Tr.encs, pds]
  | k :: ks => by rw [Tr.encs, pds, pd_tr k, pds_trs ks]; rfl
end
mutual
theorem tr_inj : ∀ a b : Tr, a.enc = b.enc → a = b
  | .mk l ks, .mk l' ks', h => by
    rw [Tr.enc, Tr.enc] at h
    have h1 := PyData.tuple.inj h
    obtain ⟨h2, h3⟩ := List.cons.inj h1
    have h4 := PyData.tuple.inj (List.cons.inj h3).1
    rw [PyData.str.inj h2, trs_inj ks ks' h4]
theorem trs_inj : ∀ a b : List Tr, Tr.encs a = Tr.encs b → a = b
  | [], [], _ => rfl
  | [], y :: ys, e => by rw [Tr.encs, Tr.encs] at e; cases e
  | x :: xs, [], e => by rw [Tr.encs, Tr.encs] at e; cases e
  | x :: xs, y :: ys, e => by
    rw [Tr.encs, Tr.encs] at e
    obtain ⟨e1, e2⟩ := List.cons.inj e
    rw [tr_inj x y e1, trs_inj xs ys e2]
end
theorem wayS_inj {a b : Bool} (h : wayS a = wayS b) : a = b := by
  cases a <;> cases b
  · rfl
  · exact absurd h (by decide +kernel)
  · exact absurd h (by decide +kernel)
  · rfl
mutual
theorem pd_st : ∀ s : St, pd s.enc = true
  | .mk d l ts => by rw [St.enc, pd, pds, pds, pds, pds, pd, pd, pd, pds_ts ts]; rfl
theorem pds_ts : ∀ ts : List Pt, pds (encTs ts) = true
  | [] => by rw [encTs, pds]
  | p :: ps => by rw [encTs, pds, pd, pds_ss p, pds_ts ps]; rfl
theorem pds_ss : ∀ p : Pt, pds (encSs p) = true
  | [] => by rw [encSs, pds]
  | s :: r => by rw [encSs, pds, pd_st s, pds_ss r]; rfl
end
mutual
theorem st_inj : ∀ a b : St, a.enc = b.enc → a = b
  | .mk d l ts, .mk d' l' ts', h => by
    rw [St.enc, St.enc] at h
    have h1 := PyData.tuple.inj h
    obtain ⟨h2, h3⟩ := List.cons.inj h1
    obtain ⟨h4, h5⟩ := List.cons.inj h3
    have h6 := PyData.tuple.inj (List.cons.inj h5).1
    rw [wayS_inj (PyData.str.inj h2), PyData.str.inj h4, ts_inj ts ts' h6]
theorem ts_inj : ∀ a b : List Pt, encTs a = encTs b → a = b
  | [], [], _ => rfl
  | [], y :: ys, e => by rw [encTs, encTs] at e; cases e
  | x :: xs, [], e => by rw [encTs, encTs] at e; cases e
  | x :: xs, y :: ys, e => by
    rw [encTs, encTs] at e
    obtain ⟨e1, e2⟩ := List.cons.inj e
    rw [ss_inj x y (PyData.tuple.inj e1), ts_inj xs ys e2]
theorem ss_inj : ∀ a b : Pt, encSs a = encSs b → a = b
  | [], [], _ => rfl
  | [], y :: ys, e => by rw [encSs, encSs] at e; cases e
  | x :: xs, [], e => by rw [encSs, encSs] at e; cases e
  | x :: xs, y :: ys, e => by
    rw [encSs, encSs] at e
    obtain ⟨e1, e2⟩ := List.cons.inj e
    rw [st_inj x y e1, ss_inj xs ys e2]
end
theorem pd_encP (p : Pt) : pd (encP p) = true := by unfold encP; rw [pd, pds_ss]
theorem encP_inj {p q : Pt} (h : encP p = encP q) : p = q := ss_inj p q (PyData.tuple.inj h)
theorem pd_tuple (xs : List D) : pd (.tuple xs) = pds xs := by rw [pd]
theorem pd_list (xs : List D) : pd (.list xs) = pds xs := by rw [pd]
theorem pds_map {α : Type} {f : α → D} (h : ∀ a, pd (f a) = true) (xs : List α) : pds (xs.map f) = true := by
  rw [pds_iff]
  intro x hx
  obtain ⟨a, _, rfl⟩ := List.mem_map.mp hx
  exact h a
end Pu
/-! paths that are paths -/
namespace Pu
open PySem L2
abbrev letS (l : Str) : Prop := l = "a" ∨ l = "b" ∨ l = "c"
mutual
/-- letters, at most L steps in a row, at most K tests -/
def St.good (L K : Nat) : St → Prop
  | .mk _ l ts => letS l ∧ ts.length ≤ K ∧ goodTs L K ts
def goodTs (L K : Nat) : List Pt → Prop
  | [] => True
  | p :: ps => (1 ≤ p.length ∧ p.length ≤ L ∧ goodSs L K p) ∧ goodTs L K ps
def goodSs (L K : Nat) : Pt → Prop
  | [] => True
  | s :: r => s.good L K ∧ goodSs L K r
end
def goodP (L K : Nat) (p : Pt) : Prop := 1 ≤ p.length ∧ p.length ≤ L ∧ goodSs L K p
theorem goodTs_iff {L K : Nat} : ∀ {ts : List Pt}, goodTs L K ts ↔ ∀ p ∈ ts, goodP L K p
  | [] => by rw [goodTs]; exact ⟨fun _ p hp => (by cases hp), fun _ => trivial⟩
  | p :: ps => by
    rw [goodTs, goodTs_iff (ts := ps)]
    exact ⟨fun ⟨a, b⟩ x hx => by
      cases hx with
      | head => exact a
      | tail _ h => exact b x h, fun h => ⟨h p (.head _), fun x hx => h x (.tail _ hx)⟩⟩
theorem goodSs_iff {L K : Nat} : ∀ {p : Pt}, goodSs L K p ↔ ∀ s ∈ p, s.good L K
  | [] => by rw [goodSs]; exact ⟨fun _ p hp => (by cases hp), fun _ => trivial⟩
  | p :: ps => by
    rw [goodSs, goodSs_iff (p := ps)]
    exact ⟨fun ⟨a, b⟩ x hx => by
      cases hx with
      | head => exact a
      | tail _ h => exact b x h, fun h => ⟨h p (.head _), fun x hx => h x (.tail _ hx)⟩⟩
theorem good_iff {L K : Nat} {s : St} : s.good L K ↔ letS s.let_ ∧ s.tests.length ≤ K ∧ ∀ q ∈ s.tests, goodP L K q := by
  obtain ⟨d, l, ts⟩ := s
  rw [St.good, goodTs_iff]; exact Iff.rfl
theorem goodP_iff {L K : Nat} {p : Pt} : goodP L K p ↔ 1 ≤ p.length ∧ p.length ≤ L ∧ ∀ s ∈ p, s.good L K := by
  unfold goodP; rw [goodSs_iff]
theorem numP_app : ∀ p q : Pt, numP (p ++ q) = numP p + numP q
  | [], q => by rw [List.nil_append, numP]; omega
  | s :: p, q => by rw [List.cons_append, numP, numP, numP_app p q]; omega
theorem numTs_app : ∀ p q : List Pt, numTs (p ++ q) = numTs p + numTs q
  | [], q => by rw [List.nil_append, numTs]; omega
  | s :: p, q => by rw [List.cons_append, numTs, numTs, numTs_app p q]; omega
theorem num_pos (s : St) : 1 ≤ s.num := by
  obtain ⟨d, l, ts⟩ := s
  rw [St.num]; omega
theorem len_num : ∀ p : Pt, p.length ≤ numP p
  | [] => Nat.zero_le _
  | s :: p => by
    have := len_num p
    have := num_pos s
    rw [List.length_cons, numP]; omega
theorem numP_pos {p : Pt} (h : 1 ≤ p.length) : 1 ≤ numP p := Nat.le_trans h (len_num p)
/-- induction over steps and paths -/
theorem goodP_test {L K : Nat} {p : Pt} {s : St} {q : Pt} (h : goodP L K p) (hs : s ∈ p) (hq : q ∈ s.tests) : goodP L K q := (good_iff.mp ((goodP_iff.mp h).2.2 s hs)).2.2 q hq
theorem numP_ind {P : Pt → Prop} (h : ∀ p, (∀ s ∈ p, ∀ q ∈ s.tests, P q) → P p) : ∀ p, P p := by
  have : ∀ (n : Nat) (p : Pt), numP p < n → P p := by
    intro n
    induction n with
    | zero => intro p hp; omega
    | succ n ih =>
      intro p hp
      exact h p fun s hs q hq => ih q (by have := (tests_of hs hq).1; omega)
  exact fun p => this (numP p + 1) p (by omega)
theorem goodP_len {L K : Nat} : ∀ p : Pt, goodP L K p → lenP L p := by
  refine numP_ind fun p ih h => ?_
  obtain ⟨h1, h2, h3⟩ := goodP_iff.mp h
  refine ⟨h2, (lenSs_iff L p).mpr fun s hs => ?_⟩
  obtain ⟨d, l, ts⟩ := s
  rw [St.lenOk, lenTs_iff]
  exact fun q hq => ih _ hs q hq (goodP_test h hs hq)
theorem goodP_mono {L K L' K' : Nat} (hL : L ≤ L') (hK : K ≤ K') : ∀ p : Pt, goodP L K p → goodP L' K' p := by
  refine numP_ind fun p ih h => ?_
  obtain ⟨h1, h2, h3⟩ := goodP_iff.mp h
  refine goodP_iff.mpr ⟨h1, by omega, fun s hs => ?_⟩
  obtain ⟨a, b, c⟩ := good_iff.mp (h3 s hs)
  exact good_iff.mpr ⟨a, by omega, fun q hq => ih s hs q hq (c q hq)⟩
theorem lenP_mono {L L' : Nat} (hL : L ≤ L') : ∀ p : Pt, lenP L p → lenP L' p := by
  refine numP_ind fun p ih h => ?_
  refine ⟨Nat.le_trans h.1 hL, (lenSs_iff L' p).mpr fun s hs => ?_⟩
  have h3 := (lenSs_iff L p).mp h.2 s hs
  obtain ⟨d, l, ts⟩ := s
  rw [St.lenOk, lenTs_iff] at h3 ⊢
  exact fun q hq => ih _ hs q hq (h3 q hq)
theorem encP_eq (p : Pt) : encP p = .tuple (p.map St.enc) := by unfold encP; rw [encSs_map]
theorem St.enc_eq (d : Bool) (l : Str) (ts : List Pt) : (St.mk d l ts).enc = .tuple [.str (wayS d), .str l, .tuple (ts.map encP)] := by rw [St.enc, encTs_map]
theorem encP_depth : ∀ p : Pt, (encP p).depth ≤ 3 * numP p + 1 := by
  refine numP_ind fun p ih => ?_
  rw [encP_eq]
  show PyData.depthAll _ + 1 ≤ _
  have : PyData.depthAll (p.map St.enc) ≤ 3 * numP p := depthAll_le fun x hx => by
    obtain ⟨s, hs, rfl⟩ := List.mem_map.mp hx
    have h1 := num_mem hs
    have ih := ih s hs
    obtain ⟨d, l, ts⟩ := s
    rw [St.enc_eq]
    have h2 : PyData.depthAll (ts.map encP) ≤ 3 * numTs ts + 1 - 0 := depthAll_le fun y hy => by
      obtain ⟨q, hq, rfl⟩ := List.mem_map.mp hy
      have h3 := ih q hq
      have h4 := numTs_mem hq
      omega
    rw [St.num] at h1
    show max (PyData.depth (.str _)) (max (PyData.depth (.str _)) (max (PyData.depthAll (ts.map encP) + 1) (PyData.depthAll []))) + 1 ≤ _
    show max 0 (max 0 (max (PyData.depthAll (ts.map encP) + 1) 0)) + 1 ≤ _
    omega
  omega
theorem enc_depth : ∀ (n : Nat) (t : Tr), t.size ≤ n → t.enc.depth ≤ 2 * n
  | 0, t, h => by have := size_pos t; omega
  | n + 1, .mk l ks, h => by
    rw [Tr.enc, encs_map]
    rw [Tr.size] at h
    have : PyData.depthAll (ks.map Tr.enc) ≤ 2 * n := depthAll_le fun x hx => by
      obtain ⟨k, hk, rfl⟩ := List.mem_map.mp hx
      exact enc_depth n k (by have := size_mem hk; omega)
    show max 0 (max (PyData.depthAll (ks.map Tr.enc) + 1) 0) + 1 ≤ _
    omega
/-! slices -/
theorem cut_take {α : Type} (xs : List α) (i : Nat) : cutL xs none (some (i : Int)) = xs.take i := by
  unfold cutL
  rw [HT.sIx_none, HT.sIx_nat, List.drop_zero, Nat.sub_zero]
  by_cases h : i ≤ xs.length
  · rw [Nat.min_eq_left h]
  · rw [Nat.min_eq_right (by omega), List.take_length, List.take_of_length_le (by omega)]
theorem cut_drop {α : Type} (xs : List α) (i : Nat) : cutL xs (some (i : Int)) none = xs.drop i := by
  unfold cutL
  rw [HT.sIx_none, HT.sIx_nat]
  by_cases h : i ≤ xs.length
  · rw [Nat.min_eq_left h, List.take_of_length_le (by rw [List.length_drop]; omega)]
  · rw [Nat.min_eq_right (by omega), List.drop_of_length_le (by omega), Nat.sub_self, List.take_zero, List.drop_of_length_le (by omega)]
theorem cut_init {α : Type} (xs : List α) : cutL xs none (some (-1)) = xs.dropLast := by
  unfold cutL HT.sIx
  simp
  rw [List.dropLast_eq_take]
  congr 1
  omega
theorem cut_one {α : Type} (xs : List α) : cutL xs (some 1) none = xs.drop 1 := cut_drop xs 1
theorem sl_tup (xs : List D) (lo hi : Option Int) : slD (.tuple xs) lo hi = .ok (.tuple (cutL xs lo hi)) := rfl
theorem sl_tup_take (xs : List D) (i : Nat) : slD (.tuple xs) none (some (i : Int)) = .ok (.tuple (xs.take i)) := by rw [sl_tup, cut_take]
theorem sl_tup_drop (xs : List D) (i : Nat) : slD (.tuple xs) (some (i : Int)) none = .ok (.tuple (xs.drop i)) := by rw [sl_tup, cut_drop]
theorem sl_tup_drop1 (xs : List D) (i : Nat) : slD (.tuple xs) (some ((i : Int) + 1)) none = .ok (.tuple (xs.drop (i + 1))) := sl_tup_drop xs (i + 1)
theorem sl_tup_one (xs : List D) : slD (.tuple xs) (some 1) none = .ok (.tuple (xs.drop 1)) := by rw [sl_tup, cut_one]
theorem sl_tup_init (xs : List D) : slD (.tuple xs) none (some (-1)) = .ok (.tuple xs.dropLast) := by rw [sl_tup, cut_init]
theorem ix_nat_t {xs : List D} {i : Nat} {x : D} (h : xs[i]? = some x) : ixD (.tuple xs) (.int (i : Int)) = .ok x := by
  show Rs.ofO (atI xs _) = _
  rw [atI_nn (Int.natCast_nonneg i), Int.toNat_natCast, h]; rfl
theorem ix_nat_l {xs : List D} {i : Nat} {x : D} (h : xs[i]? = some x) : ixD (.list xs) (.int (i : Int)) = .ok x := by
  show Rs.ofO (atI xs _) = _
  rw [atI_nn (Int.natCast_nonneg i), Int.toNat_natCast, h]; rfl
theorem ix_last_t (xs : List D) (x : D) : ixD (.tuple (xs ++ [x])) (.int (-1)) = .ok x := by
  show Rs.ofO (atI _ _) = _
  have e3 : (1 : Int) ≤ (xs.length : Int) + 1 := by omega
  have e4 : (-1 + ((xs.length : Int) + 1)).toNat = xs.length := by omega
  simp [atI, ixN, e3, e4]
theorem part_int (i : Int) : partD (.int i) = .ok (some i) := rfl
theorem bin_add_tt {xs ys : List D} (h : xs.length + ys.length ≤ 16777216) : binD .add (.tuple xs) (.tuple ys) = .ok (.tuple (xs ++ ys)) := bin_add_t h
theorem sum_numTs : ∀ ts : List Pt, (ts.map fun t => ((numP t : Nat) : Int)).sum = ((numTs ts : Nat) : Int)
  | [] => by rw [numTs]; rfl
  | t :: ts => by rw [List.map_cons, List.sum_cons, sum_numTs ts, numTs]; omega
theorem sum_numP : ∀ ts : Pt, (ts.map fun t => ((t.num : Nat) : Int)).sum = ((numP ts : Nat) : Int)
  | [] => by rw [numP]; rfl
  | t :: ts => by rw [List.map_cons, List.sum_cons, sum_numP ts, numP]; omega
theorem small_mod {x p : Int} (h0 : 0 < p) (h : p < 2 ^ 60) : small64 (x % p) = true := by
  have h1 := Int.emod_nonneg x (by omega : p ≠ 0)
  have h2 := Int.emod_lt_of_pos x h0
  unfold small64
  rw [Bool.and_eq_true, decide_eq_true_eq, decide_eq_true_eq]
  omega
theorem s_a : (("a" : Str)) = ⟨#[97]⟩ := by decide +kernel
theorem s_b : (("b" : Str)) = ⟨#[98]⟩ := by decide +kernel
theorem s_c : (("c" : Str)) = ⟨#[99]⟩ := by decide +kernel
theorem s_d : (("d" : Str)) = ⟨#[100]⟩ := by decide +kernel
theorem s_abcab : (("abcab" : Str)) = ⟨#[97, 98, 99, 97, 98]⟩ := by decide +kernel
theorem let_at5 {i : Int} (h0 : 0 ≤ i) (h1 : i < 5) : ∃ l : Str, ixD (.str "abcab") (.int i) = .ok (.str l) ∧ letS l := by
  have : i = 0 ∨ i = 1 ∨ i = 2 ∨ i = 3 ∨ i = 4 := by omega
  unfold letS
  rw [s_abcab, s_a, s_b, s_c]
  rcases this with rfl | rfl | rfl | rfl | rfl
  · exact ⟨⟨#[97]⟩, rfl, .inl rfl⟩
  · exact ⟨⟨#[98]⟩, rfl, .inr (.inl rfl)⟩
  · exact ⟨⟨#[99]⟩, rfl, .inr (.inr rfl)⟩
  · exact ⟨⟨#[97]⟩, rfl, .inl rfl⟩
  · exact ⟨⟨#[98]⟩, rfl, .inr (.inl rfl)⟩
theorem way_atB {i : Int} (h0 : 0 ≤ i) (h1 : i < 2) : ∃ d : Bool, ixD (.tuple [.str "in", .str "deep"]) (.int i) = .ok (.str (wayS d)) := by
  have : i = 0 ∨ i = 1 := by omega
  rcases this with rfl | rfl
  · exact ⟨false, rfl⟩
  · exact ⟨true, rfl⟩
/-! paths under the evaluator's operations -/
theorem slP_take (p : Pt) (i : Nat) : slD (encP p) none (some (i : Int)) = .ok (encP (p.take i)) := by rw [encP_eq, encP_eq, sl_tup_take, List.map_take]
theorem slP_drop (p : Pt) (i : Nat) : slD (encP p) (some (i : Int)) none = .ok (encP (p.drop i)) := by rw [encP_eq, encP_eq, sl_tup_drop, List.map_drop]
theorem slP_drop1 (p : Pt) (i : Nat) : slD (encP p) (some ((i : Int) + 1)) none = .ok (encP (p.drop (i + 1))) := slP_drop p (i + 1)
theorem slP_one (p : Pt) : slD (encP p) (some 1) none = .ok (encP (p.drop 1)) := slP_drop p 1
theorem slP_init (p : Pt) : slD (encP p) none (some (-1)) = .ok (encP p.dropLast) := by rw [encP_eq, encP_eq, sl_tup_init, List.map_dropLast]
theorem addP {p q : Pt} (h : p.length + q.length ≤ 16777216) : binD .add (encP p) (encP q) = .ok (encP (p ++ q)) := by
  rw [encP_eq, encP_eq, encP_eq, bin_add_tt (by rw [List.length_map, List.length_map]; exact h), List.map_append]
theorem lenPd (p : Pt) : biD .len [encP p] = .ok (.int p.length) := by rw [encP_eq, bi_len_t, List.length_map]
theorem ixP {p : Pt} {i : Nat} {s : St} (h : p[i]? = some s) : ixD (encP p) (.int (i : Int)) = .ok s.enc := by
  rw [encP_eq]; exact ix_nat_t (by rw [List.getElem?_map, h]; rfl)
theorem ixP0 (s : St) (p : Pt) : ixD (encP (s :: p)) (.int 0) = .ok s.enc := ixP (p := s :: p) (i := 0) rfl
theorem ixP_last (p : Pt) (s : St) : ixD (encP (p ++ [s])) (.int (-1)) = .ok s.enc := by
  rw [encP_eq, List.map_append]; exact ix_last_t _ _
theorem itP (p : Pt) : items .plain [encP p] = .ok (p.map St.enc) := by rw [encP_eq]; rfl
/-- tests -/
def encL (ts : List Pt) : D := .tuple (ts.map encP)
theorem slL_take (p : List Pt) (i : Nat) : slD (encL p) none (some (i : Int)) = .ok (encL (p.take i)) := by unfold encL; rw [sl_tup_take, List.map_take]
theorem slL_drop (p : List Pt) (i : Nat) : slD (encL p) (some (i : Int)) none = .ok (encL (p.drop i)) := by unfold encL; rw [sl_tup_drop, List.map_drop]
theorem slL_drop1 (p : List Pt) (i : Nat) : slD (encL p) (some ((i : Int) + 1)) none = .ok (encL (p.drop (i + 1))) := slL_drop p (i + 1)
theorem slL_one (p : List Pt) : slD (encL p) (some 1) none = .ok (encL (p.drop 1)) := slL_drop p 1
theorem slL_init (p : List Pt) : slD (encL p) none (some (-1)) = .ok (encL p.dropLast) := by unfold encL; rw [sl_tup_init, List.map_dropLast]
theorem addL {p q : List Pt} (h : p.length + q.length ≤ 16777216) : binD .add (encL p) (encL q) = .ok (encL (p ++ q)) := by
  unfold encL
  rw [bin_add_tt (by rw [List.length_map, List.length_map]; exact h), List.map_append]
theorem lenL (p : List Pt) : biD .len [encL p] = .ok (.int p.length) := by unfold encL; rw [bi_len_t, List.length_map]
theorem ixL {p : List Pt} {i : Nat} {s : Pt} (h : p[i]? = some s) : ixD (encL p) (.int (i : Int)) = .ok (encP s) := by
  unfold encL; exact ix_nat_t (by rw [List.getElem?_map, h]; rfl)
theorem ixL0 (s : Pt) (p : List Pt) : ixD (encL (s :: p)) (.int 0) = .ok (encP s) := ixL (p := s :: p) (i := 0) rfl
theorem revL (p : List Pt) : revD (encL p) = .ok (encL p.reverse) := by
  unfold encL
  show Rs.ok (PyData.tuple (p.map encP).reverse) = _
  rw [List.map_reverse]
theorem itL (p : List Pt) : items .plain [encL p] = .ok (p.map encP) := rfl
theorem St.encE (d : Bool) (l : Str) (ts : List Pt) : (St.mk d l ts).enc = .tuple [.str (wayS d), .str l, encL ts] := St.enc_eq d l ts
/-- folded back -/
theorem foldP (d : Bool) (l : Str) (ts : List Pt) : (PyData.tuple [.tuple [.str (wayS d), .str l, encL ts]]) = encP [.mk d l ts] := by
  rw [encP_eq, List.map_cons, List.map_nil, St.encE]
theorem foldP1 (l : Str) (ts : List Pt) : (PyData.tuple [.tuple [.str "deep", .str l, encL ts]]) = encP [.mk true l ts] := foldP true l ts
theorem foldP0 (l : Str) (ts : List Pt) : (PyData.tuple [.tuple [.str "in", .str l, encL ts]]) = encP [.mk false l ts] := foldP false l ts
theorem foldL (p : Pt) : (PyData.tuple [encP p]) = encL [p] := rfl
theorem encL_ne (ts : List Pt) : PyData.eqv (encL ts) (.tuple []) = ts.isEmpty := by cases ts <;> rfl
theorem encL_nil : encL [] = .tuple [] := rfl
theorem encP_nil : encP [] = .tuple [] := rfl
/-! goodness of pieces -/
theorem good_of {L K : Nat} {p : Pt} (h : goodP L K p) {i : Nat} {s : St} (hi : p[i]? = some s) : s.good L K := (goodP_iff.mp h).2.2 s (List.mem_of_getElem? hi)
theorem split_at {α : Type} {p : List α} {i : Nat} {s : α} (h : p[i]? = some s) : p = p.take i ++ s :: p.drop (i + 1) := by
  obtain ⟨h1, h2⟩ := List.getElem?_eq_some_iff.mp h
  subst h2
  rw [← List.drop_eq_getElem_cons h1, List.take_append_drop]
theorem good_put {L K : Nat} {p : Pt} (h : goodP L K p) {i : Nat} {s s' : St} (hi : p[i]? = some s) (hs : s'.good L K) : goodP L K (p.take i ++ [s'] ++ p.drop (i + 1)) := by
  obtain ⟨h1, h2, h3⟩ := goodP_iff.mp h
  have e := split_at hi
  have l1 : p.length = (p.take i).length + (1 + (p.drop (i + 1)).length) := by
    conv => lhs; rw [e]
    simp only [List.length_append, List.length_cons]; omega
  refine goodP_iff.mpr ⟨?_, ?_, ?_⟩
  · simp only [List.length_append, List.length_singleton]; omega
  · simp only [List.length_append, List.length_singleton]; omega
  · intro x hx
    rcases List.mem_append.mp hx with hx | hx
    · rcases List.mem_append.mp hx with hx | hx
      · exact h3 x (List.mem_of_mem_take hx)
      · rw [List.mem_singleton.mp hx]; exact hs
    · exact h3 x (List.mem_of_mem_drop hx)
theorem num_put {p : Pt} {i : Nat} {s s' : St} (hi : p[i]? = some s) : numP (p.take i ++ [s'] ++ p.drop (i + 1)) + s.num = numP p + s'.num := by
  conv => rhs; rw [split_at hi]
  simp only [numP_app, numP]; omega
theorem good_del {L K : Nat} {p : Pt} (h : goodP L K p) {i : Nat} {s : St} (hi : p[i]? = some s) (hl : 2 ≤ p.length) : goodP L K (p.take i ++ p.drop (i + 1)) ∧ numP (p.take i ++ p.drop (i + 1)) ≤ numP p := by
  obtain ⟨h1, h2, h3⟩ := goodP_iff.mp h
  have e := split_at hi
  have l1 : p.length = (p.take i).length + (1 + (p.drop (i + 1)).length) := by
    conv => lhs; rw [e]
    simp only [List.length_append, List.length_cons]; omega
  refine ⟨goodP_iff.mpr ⟨?_, ?_, ?_⟩, ?_⟩
  · simp only [List.length_append]; omega
  · simp only [List.length_append]; omega
  · intro x hx
    rcases List.mem_append.mp hx with hx | hx
    · exact h3 x (List.mem_of_mem_take hx)
    · exact h3 x (List.mem_of_mem_drop hx)
  · conv => rhs; rw [e]
    simp only [numP_app, numP]; omega
theorem good_init {L K : Nat} {p : Pt} (h : goodP L K p) (hl : 2 ≤ p.length) : goodP L K p.dropLast ∧ numP p.dropLast ≤ numP p := by
  obtain ⟨h1, h2, h3⟩ := goodP_iff.mp h
  rw [List.dropLast_eq_take]
  refine ⟨goodP_iff.mpr ⟨?_, ?_, fun x hx => h3 x (List.mem_of_mem_take hx)⟩, ?_⟩
  · rw [List.length_take]; omega
  · rw [List.length_take]; omega
  · conv => rhs; rw [← List.take_append_drop (p.length - 1) p]
    rw [numP_app]; omega
theorem numTs_init (p : List Pt) : numTs p.dropLast ≤ numTs p := by
  rw [List.dropLast_eq_take]
  conv => rhs; rw [← List.take_append_drop (p.length - 1) p]
  rw [numTs_app]; omega
theorem numTs_rev : ∀ p : List Pt, numTs p.reverse = numTs p
  | [] => rfl
  | q :: p => by
    rw [List.reverse_cons, numTs_app, numTs_rev p]
    simp only [numTs]; omega
theorem eqv_refl_L (ts : List Pt) : PyData.eqv (encL ts) (encL ts) = true := eqv_refl (by unfold encL; rw [pd_tuple]; exact pds_map pd_encP ts)
end Pu
/-! sorted lists, sets -/
namespace Pu
open PySem L2
open PySem.W (dataLe keyToks keyToksAll alike alikeAll)
section
variable {α : Type} {enc : α → D}
theorem le_total (enc : α → D) : PySem.W.TotalLe (dataLe false enc) := PySem.W.sortLe_total _ _ _
/-- told apart by their signs -/
theorem toks_inj {a b : D} (hal : alike a b = true) (ha : pd a = true) (hb : pd b = true) (h : keyToks a = keyToks b) : a = b := by
  refine (eqv_iff a b ha hb).mp ?_
  cases e : PyData.eqv a b with
  | true => rfl
  | false =>
    have h1 := (PySem.W.toks_eqv a b hal).2 e [] [.inl 0]
    rw [h, PySem.W.lex_pre] at h1
    have h2 := PyProof.Rows.lex_irrefl (O := PyProof.Rows.itemOrd) (keyToks b)
    rw [h2] at h1
    exact absurd h1 (by decide)
/-- an encoding whose data are alike -/
structure Encs (enc : α → D) : Prop where
  al : ∀ a b, alike (enc a) (enc b) = true
  pl : ∀ a, pd (enc a) = true
  inj : ∀ a b, enc a = enc b → a = b
theorem le_anti (H : Encs enc) {a b : α} (h1 : dataLe false enc a b = true) (h2 : dataLe false enc b a = true) : a = b := by
  have h1 : (!PyProof.Rows.lexLt PyProof.Rows.itemOrd (keyToks (enc b)) (keyToks (enc a))) = true := h1
  have h2 : (!PyProof.Rows.lexLt PyProof.Rows.itemOrd (keyToks (enc a)) (keyToks (enc b))) = true := h2
  rw [Bool.not_eq_true'] at h1 h2
  exact H.inj a b (toks_inj (H.al a b) (H.pl a) (H.pl b) (PyProof.Rows.lex_total (O := PyProof.Rows.itemOrd) _ _ h2 h1))
def srt (enc : α → D) (xs : List α) : List α := xs.mergeSort (dataLe false enc)
theorem srt_perm (xs : List α) : (srt enc xs).Perm xs := List.mergeSort_perm _ _
theorem srt_pw (xs : List α) : (srt enc xs).Pairwise fun a b => dataLe false enc a b = true :=
  List.pairwise_mergeSort (fun a b c => (le_total enc).trans a b c) (fun a b => by
    rcases (le_total enc).total a b with h | h <;> simp [h]) xs
theorem mem_srt {xs : List α} {a : α} : a ∈ srt enc xs ↔ a ∈ xs := (srt_perm xs).mem_iff
theorem srt_len (xs : List α) : (srt enc xs).length = xs.length := (srt_perm xs).length_eq
theorem pw_unique (H : Encs enc) : ∀ {xs ys : List α}, xs.Perm ys → (xs.Pairwise fun a b => dataLe false enc a b = true) → (ys.Pairwise fun a b => dataLe false enc a b = true) → xs = ys
  | [], ys, hp, _, _ => (List.nil_perm.mp hp).symm
  | x :: xs, [], hp, _, _ => absurd hp.length_eq (by simp)
  | x :: xs, y :: ys, hp, hx, hy => by
    have hx' := List.pairwise_cons.mp hx
    have hy' := List.pairwise_cons.mp hy
    have e : x = y := by
      have m1 : x ∈ y :: ys := hp.mem_iff.mp (.head _)
      have m2 : y ∈ x :: xs := hp.mem_iff.mpr (.head _)
      rcases List.mem_cons.mp m1 with h | h
      · exact h
      · rcases List.mem_cons.mp m2 with h' | h'
        · exact h'.symm
        · exact le_anti H (hx'.1 y h') (hy'.1 x h)
    subst e
    rw [pw_unique H (List.Perm.cons_inv hp) hx'.2 hy'.2]
theorem srt_ext (H : Encs enc) {xs ys : List α} (h : xs.Perm ys) : srt enc xs = srt enc ys :=
  pw_unique H ((srt_perm xs).trans (h.trans (srt_perm ys).symm)) (srt_pw xs) (srt_pw ys)
theorem srt_fix (H : Encs enc) {xs : List α} (h : xs.Pairwise fun a b => dataLe false enc a b = true) : srt enc xs = xs :=
  pw_unique H (srt_perm xs) (srt_pw xs) h
theorem srt_enc (xs : List α) : (xs.map enc).mergeSort (dataLe false id) = (srt enc xs).map enc :=
  (List.map_mergeSort (r := dataLe false enc) (s := dataLe false id) (f := enc) fun a _ b _ => rfl).symm
section
variable [BEq α] [LawfulBEq α]
theorem era_cons (x : α) (xs : List α) : (x :: xs).eraseDups = x :: (xs.filter fun b => !(b == x)).eraseDups := List.eraseDups_cons
theorem mem_era : ∀ (n : Nat) {xs : List α} {a : α}, xs.length ≤ n → (a ∈ xs.eraseDups ↔ a ∈ xs)
  | _, [], a, _ => by simp
  | n + 1, x :: xs, a, h => by
    rw [List.length_cons] at h
    have hl := List.length_filter_le (fun b => !(b == x)) xs
    rw [era_cons, List.mem_cons, List.mem_cons, mem_era n (by omega), List.mem_filter]
    by_cases e : a = x
    · simp [e]
    · simp [e]
theorem nodup_era : ∀ (n : Nat) {xs : List α}, xs.length ≤ n → xs.eraseDups.Nodup
  | _, [], _ => by simp
  | n + 1, x :: xs, h => by
    rw [List.length_cons] at h
    have hl := List.length_filter_le (fun b => !(b == x)) xs
    rw [era_cons, List.nodup_cons]
    refine ⟨fun hm => ?_, nodup_era n (by omega)⟩
    have := (mem_era n (by omega)).mp hm
    simp at this
theorem era_fix : ∀ {xs : List α}, xs.Nodup → xs.eraseDups = xs
  | [], _ => by simp
  | x :: xs, h => by
    rw [List.nodup_cons] at h
    rw [era_cons, List.filter_eq_self.mpr, era_fix h.2]
    intro a ha
    have : a ≠ x := fun e => h.1 (e ▸ ha)
    simp [this]
end
theorem era_map {β : Type} [BEq α] [LawfulBEq α] [BEq β] [LawfulBEq β] {f : α → β} (hf : ∀ a b, f a = f b → a = b) : ∀ (n : Nat) {xs : List α}, xs.length ≤ n → (xs.map f).eraseDups = xs.eraseDups.map f
  | _, [], _ => by simp
  | n + 1, x :: xs, h => by
    rw [List.length_cons] at h
    have hl := List.length_filter_le (fun b => !(b == x)) xs
    rw [List.map_cons, era_cons, era_cons, List.map_cons, ← era_map hf n (by omega), List.filter_map]
    congr 3
    refine List.filter_congr fun a _ => ?_
    show (!(f a == f x)) = !(a == x)
    by_cases e : a = x
    · simp [e]
    · rw [beq_eq_false_iff_ne.mpr (fun h => e (hf _ _ h) : f a ≠ f x), beq_eq_false_iff_ne.mpr e]
end
/-! sets of nodes -/
theorem alike_ints : ∀ xs ys : List Int, alikeAll (xs.map .int) (ys.map .int) = true
  | [], ys => by cases ys <;> simp [alikeAll]
  | x :: xs, [] => by simp [alikeAll]
  | x :: xs, y :: ys => by
    rw [List.map_cons, List.map_cons, alikeAll, alike_ints xs ys]
    simp [alike]
theorem encN_ints (n : Node) : encN n = encR (n.map fun (k : Nat) => (k : Int)) := by
  unfold encN encR
  rw [List.map_map]; rfl
theorem encsN : Encs encN where
  al a b := by rw [encN_ints, encN_ints]; unfold encR; rw [alike]; exact alike_ints _ _
  pl := pd_encN
  inj _ _ := encN_inj
def setN (ns : List Node) : List Node := srt encN ns.eraseDups
theorem mem_setN {ns : List Node} {n : Node} : n ∈ setN ns ↔ n ∈ ns := by
  unfold setN
  rw [mem_srt, mem_era _ (Nat.le_refl _)]
theorem nodup_setN (ns : List Node) : (setN ns).Nodup := by
  unfold setN
  exact (srt_perm _).nodup_iff.mpr (nodup_era _ (Nat.le_refl _))
theorem pw_setN (ns : List Node) : (setN ns).Pairwise fun a b => dataLe false encN a b = true := srt_pw _
theorem nodup_perm {α : Type} [DecidableEq α] {xs ys : List α} (h1 : xs.Nodup) (h2 : ys.Nodup) (h : ∀ a, a ∈ xs ↔ a ∈ ys) : xs.Perm ys :=
  (List.perm_ext_iff_of_nodup h1 h2).mpr h
theorem setN_ext {a b : List Node} (h : ∀ n, n ∈ a ↔ n ∈ b) : setN a = setN b := by
  unfold setN
  exact srt_ext encsN (nodup_perm (nodup_era _ (Nat.le_refl _)) (nodup_era _ (Nat.le_refl _)) fun n => by
    rw [mem_era _ (Nat.le_refl _), mem_era _ (Nat.le_refl _)]; exact h n)
theorem setN_fix {ns : List Node} (h1 : ns.Nodup) (h2 : ns.Pairwise fun a b => dataLe false encN a b = true) : setN ns = ns := by
  unfold setN
  rw [era_fix h1, srt_fix encsN h2]
theorem rowsI_nodes : ∀ ns : List Node, rowsI (ns.map encN) = some (ns.map fun (n : Node) => n.map fun (k : Nat) => (k : Int))
  | [] => rfl
  | n :: ns => by
    have e : intsOf (n.map fun (k : Nat) => (.int (k : Int) : D)) = some (n.map fun (k : Nat) => (k : Int)) := ints_map (fun (k : Nat) => (k : Int)) n
    show (intsOf (n.map fun (k : Nat) => (.int (k : Int) : D))).bind _ = _
    rw [e, Option.bind_some, rowsI_nodes ns]; rfl
theorem castN_inj {a b : Node} (h : (a.map fun (k : Nat) => (k : Int)) = b.map fun (k : Nat) => (k : Int)) : a = b :=
  encN_inj (by rw [encN_ints, encN_ints, h])
theorem nodup_len {α : Type} [DecidableEq α] : ∀ {xs ys : List α}, xs.Nodup → (∀ x ∈ xs, x ∈ ys) → xs.length ≤ ys.length
  | [], ys, _, _ => Nat.zero_le _
  | x :: xs, ys, h, hs => by
    rw [List.nodup_cons] at h
    have h1 := nodup_len (ys := ys.erase x) h.2 fun z hz => by
      have : z ≠ x := fun e => h.1 (e ▸ hz)
      exact (List.mem_erase_of_ne this).mpr (hs z (.tail _ hz))
    have h2 := hs x (.head _)
    have h3 := List.length_erase_of_mem h2
    have h4 := List.length_pos_of_mem h2
    rw [List.length_cons]
    omega
theorem len_setN_le {ns : List Node} {b : List Node} (h : ∀ n ∈ ns, n ∈ b) : (setN ns).length ≤ b.length :=
  nodup_len (nodup_setN ns) fun n hn => h n (mem_setN.mp hn)
theorem sset_nodes {ns : List Node} (h : (setN ns).length ≤ 62) : biD .sset [.list (ns.map encN)] = .ok (.list ((setN ns).map encN)) := by
  show (Rs.ofO (rowsI (ns.map encN))).bind _ = _
  rw [rowsI_nodes, Rs.ofO_some, Rs.bind_ok, era_map (fun a b => castN_inj) _ (Nat.le_refl _), List.length_map]
  have e : ns.eraseDups.length ≤ 62 := by
    unfold setN at h; rw [srt_len] at h; exact h
  rw [decide_eq_true e, Rs.guard_true]
  congr 2
  have := List.map_mergeSort (r := dataLe false encN) (s := dataLe false encR) (f := fun (n : Node) => n.map fun (k : Nat) => (k : Int)) (l := ns.eraseDups) fun a _ b _ => by
    show dataLe false encN a b = dataLe false encR _ _
    unfold dataLe PySem.W.sortLe
    simp only [encN_ints]
  rw [← this, List.map_map]
  unfold setN srt
  refine List.map_congr_left fun n _ => ?_
  exact (encN_ints n).symm
def encNs (ns : List Node) : D := .tuple (ns.map encN)
end Pu
/-! what is found -/
namespace Pu
open PySem L2
def lastN (w : Way) : Node := match w.getLast? with
  | some y => y.1
  | none => []
def findsK (p : Pt) (kids : List (Node × Tr)) : List Node := setN ((waysK p kids).map lastN)
def findsT (p : Pt) (t : Tr) : List Node := findsK p [([], t)]
theorem sub_mem : ∀ (n : Node) (t s : Tr), t.sub n = some s → (n, s) ∈ allT [] t
  | [], t, s, h => by
    cases h
    have := allT_eq ([], t)
    simp only at this
    rw [this]; exact .head _
  | i :: r, .mk l ks, s, h => by
    rw [Tr.sub] at h
    split at h
    · rename_i k hk
      have ih := sub_mem r k s h
      have e := allT_eq ([], .mk l ks)
      simp only at e
      rw [e]
      refine .tail _ (List.mem_flatMap.mpr ⟨([i], k), mem_kidsAt.mpr ⟨i, k, hk, rfl⟩, ?_⟩)
      have e2 := allT_pre k [i] []
      rw [List.append_nil] at e2
      show (i :: r, s) ∈ allT [i] k
      rw [e2]
      exact List.mem_map.mpr ⟨(r, s), ih, rfl⟩
    · cases h
theorem mem_nodes {t : Tr} {n : Node} : n ∈ nodesT t ↔ ∃ s, t.sub n = some s := by
  unfold nodesT
  rw [List.mem_map]
  constructor
  · rintro ⟨y, hy, rfl⟩
    exact ⟨y.2, all_sub t [] rfl y hy⟩
  · rintro ⟨s, h⟩
    exact ⟨(n, s), sub_mem n t s h, rfl⟩
theorem mem_allT {t : Tr} {y : Node × Tr} : y ∈ allT [] t ↔ t.sub y.1 = some y.2 := ⟨fun h => all_sub t [] rfl y h, fun h => sub_mem _ _ _ h⟩
theorem mem_allT_n {t : Tr} {n : Node} {y : Node × Tr} : y ∈ allT n t ↔ ∃ r, y.1 = n ++ r ∧ t.sub r = some y.2 := by
  have e := allT_pre t n []
  rw [List.append_nil] at e
  rw [e, List.mem_map]
  constructor
  · rintro ⟨z, hz, rfl⟩
    exact ⟨z.1, rfl, mem_allT.mp hz⟩
  · rintro ⟨r, h1, h2⟩
    exact ⟨(r, y.2), mem_allT.mpr h2, by rw [← h1]⟩
/-- nodes and trees of no great size -/
def Kn (B : Nat) (kids : List (Node × Tr)) : Prop := ∀ y ∈ kids, y.1.length + y.2.size ≤ B
theorem Kn.allT {B : Nat} {y : Node × Tr} (h : y.1.length + y.2.size ≤ B) : Kn B (allT y.1 y.2) := by
  intro z hz
  obtain ⟨r, e, hr⟩ := mem_allT_n.mp hz
  have := sub_size r y.2 z.2 hr
  rw [e, List.length_append]
  omega
theorem Kn.cands {B : Nat} {kids : List (Node × Tr)} (h : Kn B kids) (d : Bool) : Kn B (cands d kids) := by
  unfold Pu.cands
  split
  · intro z hz
    obtain ⟨y, hy, hz⟩ := List.mem_flatMap.mp hz
    exact Kn.allT (h y hy) z hz
  · exact h
theorem Kn.kids {B : Nat} {y : Node × Tr} (h : y.1.length + y.2.size ≤ B) : Kn B (kidsAt y) := by
  intro z hz
  obtain ⟨j, k, hk, rfl⟩ := mem_kidsAt.mp hz
  have h1 := size_mem (List.mem_of_getElem? hk)
  obtain ⟨n, l, ks⟩ := y
  have h : n.length + (Tr.mk l ks).size ≤ B := h
  have h1 : k.size ≤ Tr.sizes ks := h1
  rw [Tr.size] at h
  show (n ++ [j]).length + k.size ≤ B
  rw [List.length_append, List.length_singleton]
  omega
theorem Kn.one {B : Nat} {t : Tr} (h : t.size ≤ B) : Kn B [([], t)] := by
  intro y hy
  rw [List.mem_singleton.mp hy]
  show 0 + t.size ≤ B
  omega
theorem waysK_len : ∀ (p : Pt) (kids : List (Node × Tr)), ∀ w ∈ waysK p kids, w.length = p.length
  | [], kids, w, hw => by
    rw [waysK] at hw
    rw [List.mem_singleton.mp hw]; rfl
  | s :: r, kids, w, hw => by
    rw [waysK] at hw
    obtain ⟨y, _, hw⟩ := List.mem_flatMap.mp hw
    obtain ⟨v, hv, rfl⟩ := List.mem_map.mp hw
    rw [List.length_cons, List.length_cons, waysK_len r _ v hv]
theorem waysK_sub {t : Tr} : ∀ (p : Pt) (kids : List (Node × Tr)), (∀ y ∈ kids, t.sub y.1 = some y.2) → ∀ w ∈ waysK p kids, ∀ y ∈ w, t.sub y.1 = some y.2
  | [], kids, _, w, hw, y, hy => by
    rw [waysK] at hw
    rw [List.mem_singleton.mp hw] at hy; cases hy
  | s :: r, kids, h, w, hw, y, hy => by
    rw [waysK] at hw
    obtain ⟨z, hz, hw⟩ := List.mem_flatMap.mp hw
    obtain ⟨v, hv, rfl⟩ := List.mem_map.mp hw
    have hz := cands_sub h z (List.mem_filter.mp hz).1
    rcases List.mem_cons.mp hy with rfl | hy
    · exact hz
    · exact waysK_sub r _ (fun y hy => kids_sub hz hy) v hv y hy
theorem lastN_mem {w : Way} (h : w ≠ []) : ∃ y ∈ w, lastN w = y.1 := by
  rcases List.eq_nil_or_concat w with rfl | ⟨u, y, rfl⟩
  · exact absurd rfl h
  · refine ⟨y, by simp, ?_⟩
    unfold lastN
    simp
theorem findsK_sub {t : Tr} {p : Pt} {kids : List (Node × Tr)} (h : ∀ y ∈ kids, t.sub y.1 = some y.2) (hp : 1 ≤ p.length) : ∀ n ∈ findsK p kids, n ∈ nodesT t := by
  intro n hn
  unfold findsK at hn
  rw [mem_setN] at hn
  obtain ⟨w, hw, rfl⟩ := List.mem_map.mp hn
  have hl := waysK_len p kids w hw
  obtain ⟨y, hy, e⟩ := lastN_mem (w := w) (fun e => by rw [e, List.length_nil] at hl; omega)
  rw [e]
  exact mem_nodes.mpr ⟨y.2, waysK_sub p kids h w hw y hy⟩
theorem findsK_len {t : Tr} {p : Pt} {kids : List (Node × Tr)} (h : ∀ y ∈ kids, t.sub y.1 = some y.2) (hp : 1 ≤ p.length) : (findsK p kids).length ≤ t.size := by
  have e : (nodesT t).length = t.size := by unfold nodesT; rw [List.length_map, allT_len]
  rw [← e]
  exact nodup_len (nodup_setN _) (findsK_sub h hp)
theorem sub_one (t : Tr) : ∀ y ∈ [(([] : Node), t)], t.sub y.1 = some y.2 := fun y hy => by
  rw [List.mem_singleton.mp hy]; rfl
theorem ixW_last {w : Way} (h : 1 ≤ w.length) : ixD (encW w) (.int (-1)) = .ok (encN (lastN w)) := by
  rcases List.eq_nil_or_concat w with rfl | ⟨u, y, rfl⟩
  · exact absurd h (by decide)
  · unfold encW lastN
    rw [List.concat_eq_append, List.map_append, List.getLast?_append]
    exact ix_last_t _ _
/-- pairs of a node and its tree -/
def encY (y : Node × Tr) : D := .tuple [encN y.1, y.2.enc]
theorem fin_map {p : Pt} {kids : List (Node × Tr)} : ((waysK p kids).map fun w => encN (lastN w)) = ((waysK p kids).map lastN).map encN := by rw [List.map_map]; rfl
theorem fits_eq (d : Bool) (l : Str) (ts : List Pt) (y : Node × Tr) : (St.mk d l ts).fit y = (y.2.let_ == l && ts.all fun p => hasB p (kidsAt y)) := by rw [St.fit, testsB_all]
theorem filter_nil_all {α : Type} (f : α → Bool) : ∀ xs : List α, (xs.filter fun x => !f x).isEmpty = xs.all f
  | [] => rfl
  | x :: xs => by
    rw [List.filter_cons, List.all_cons, ← filter_nil_all f xs]
    cases f x <;> rfl
theorem filter_nil_all' {α : Type} (f : α → Bool) (xs : List α) : (xs.filter f).isEmpty = xs.all fun x => !f x := by
  rw [← filter_nil_all]
  simp
theorem flat_fit {α β : Type} (p : α → Bool) (g : α → List β) : ∀ xs : List α, (xs.flatMap fun y => if p y then g y else []) = (xs.filter p).flatMap g
  | [] => rfl
  | x :: xs => by
    rw [List.flatMap_cons, flat_fit p g xs, List.filter_cons]
    cases p x <;> simp
theorem eqv_listnil (xs : List D) : PyData.eqv (.list xs) (.list []) = xs.isEmpty := by
  cases xs with
  | nil => simp [PyData.eqv, PyData.eqvAll]
  | cons x xs => simp [PyData.eqv, PyData.eqvAll]
end Pu
namespace Pu
open PySem L2
/-! what the law's `same` takes -/
mutual
def sd : D → Bool
  | .none => true
  | .bool _ => true
  | .int _ => true
  | .str _ => true
  | .tuple xs => sds xs
  | .list _ => false
  | .dict _ => false
def sds : List D → Bool
  | [] => true
  | x :: xs => sd x && sds xs
end
theorem sds_iff : ∀ {xs : List D}, sds xs = true ↔ ∀ x ∈ xs, sd x = true
  | [] => ⟨fun _ x hx => (by cases hx), fun _ => by rw [sds]⟩
  | x :: xs => by
    rw [sds, Bool.and_eq_true, sds_iff (xs := xs)]
    exact ⟨fun ⟨a, b⟩ y hy => by
      cases hy with
      | head => exact a
      | tail _ h => exact b y h, fun h => ⟨h x (.head _), fun y hy => h y (.tail _ hy)⟩⟩
theorem sds_map {α : Type} {f : α → D} (h : ∀ a, sd (f a) = true) (xs : List α) : sds (xs.map f) = true := by
  rw [sds_iff]
  intro x hx
  obtain ⟨a, _, rfl⟩ := List.mem_map.mp hx
  exact h a
theorem sd_tuple (xs : List D) : sd (.tuple xs) = sds xs := by rw [sd]
theorem sd_encN (n : Node) : sd (encN n) = true := by unfold encN; rw [sd]; exact sds_map (fun _ => by rw [sd]) _
theorem sd_encNs (ns : List Node) : sd (encNs ns) = true := by unfold encNs; rw [sd]; exact sds_map sd_encN _
mutual
theorem sd_tr : ∀ t : Tr, sd t.enc = true
  | .mk l ks => by rw [Tr.enc, sd, sds, sds, sds, sd, sd, sds_trs ks]; rfl
theorem sds_trs : ∀ ks : List Tr, sds (Tr.encs ks) = true
  | [] => by rw [Tr.encs, sds]
  | k :: ks => by rw [Tr.encs, sds, sd_tr k, sds_trs ks]; rfl
end
mutual
theorem sd_st : ∀ s : St, sd s.enc = true
  | .mk d l ts => by rw [St.enc, sd, sds, sds, sds, sds, sd, sd, sd, sds_ts ts]; rfl
theorem sds_ts : ∀ ts : List Pt, sds (encTs ts) = true
  | [] => by rw [encTs, sds]
  | p :: ps => by rw [encTs, sds, sd, sds_ss p, sds_ts ps]; rfl
theorem sds_ss : ∀ p : Pt, sds (encSs p) = true
  | [] => by rw [encSs, sds]
  | s :: r => by rw [encSs, sds, sd_st s, sds_ss r]; rfl
end
theorem sd_encP (p : Pt) : sd (encP p) = true := by unfold encP; rw [sd, sds_ss]
theorem depthAll_mem {x : D} : ∀ {xs : List D}, x ∈ xs → x.depth ≤ PyData.depthAll xs
  | y :: ys, h => by
    show x.depth ≤ max y.depth (PyData.depthAll ys)
    cases h with
    | head => exact Nat.le_max_left _ _
    | tail _ h => exact Nat.le_trans (depthAll_mem h) (Nat.le_max_right _ _)
theorem depth_tuple (xs : List D) : (PyData.tuple xs).depth = PyData.depthAll xs + 1 := rfl
theorem depth_encN (n : Node) : (encN n).depth ≤ 1 := by
  unfold encN
  rw [depth_tuple]
  have : PyData.depthAll (n.map fun (k : Nat) => (.int (k : Int) : D)) ≤ 0 := depthAll_le fun x hx => by
    obtain ⟨k, _, rfl⟩ := List.mem_map.mp hx
    exact Nat.le_refl _
  omega
theorem depth_encNs (ns : List Node) : (encNs ns).depth ≤ 2 := by
  unfold encNs
  rw [depth_tuple]
  have : PyData.depthAll (ns.map encN) ≤ 1 := depthAll_le fun x hx => by
    obtain ⟨k, _, rfl⟩ := List.mem_map.mp hx
    exact depth_encN k
  omega
theorem depth_encW (w : Way) : (encW w).depth ≤ 2 := by
  unfold encW
  rw [depth_tuple]
  have : PyData.depthAll (w.map fun y => encN y.1) ≤ 1 := depthAll_le fun x hx => by
    obtain ⟨k, _, rfl⟩ := List.mem_map.mp hx
    exact depth_encN _
  omega
/-! loops that may hand back -/
theorem loop_find {α : Type} {body : En → Fl} {tg : Tg} {kill : List Nat} {env : En} {enc : α → D} {f : α → Option D} : ∀ {xs : List α}, (∀ x ∈ xs, loopL body tg kill [enc x] env = match f x with | some d => .ret d | none => .next env) →
    loopL body tg kill (xs.map enc) env = match xs.findSome? f with | some d => .ret d | none => .next env
  | [], _ => rfl
  | x :: xs, h => by
    rw [List.map_cons, loopL_one, h x (.head _), List.findSome?_cons]
    cases f x with
    | some d => rfl
    | none => exact loop_find fun y hy => h y (.tail _ hy)
theorem findSome_if {α β : Type} (p : α → Bool) (g : α → β) : ∀ xs : List α, (xs.findSome? fun x => if p x then some (g x) else none) = (xs.find? p).map g
  | [] => rfl
  | x :: xs => by
    rw [List.findSome?_cons, List.find?_cons]
    cases p x with
    | true => rfl
    | false => exact findSome_if p g xs
theorem it_r2 {a n : Nat} (h1 : a ≤ 1000) (h2 : n ≤ 1000) : items .range2 [.int (a : Int), .int (n : Int)] = .ok ((List.range (n - a)).map fun (i : Nat) => .int ((a + i : Nat) : Int)) := by
  show Rs.guard (inRange a && inRange n && decide (((n : Int) - a).toNat ≤ line)) _ = _
  have e : (inRange a && inRange n && decide (((n : Int) - a).toNat ≤ line)) = true := by
    unfold inRange
    simp only [Bool.and_eq_true, decide_eq_true_eq, line_eq]
    omega
  rw [e, Rs.guard_true, show ((n : Int) - a).toNat = n - a by omega]
  congr 1
end Pu
namespace Pu
open PySem L2
theorem guard_of {α : Type} {b : Bool} {r : Rs α} (h : b = true) : Rs.guard b r = r := by rw [h]; rfl
/-- sorted(..) of typed data -/
theorem sorted_enc {α : Type} {enc : α → D} (hal : ∀ a b, PySem.W.alike (enc a) (enc b) = true) (hne : ∀ a, enc a ≠ .none) {xs : List α} (hd : ∀ x ∈ xs, (enc x).depth ≤ 64) : biD .sorted [.list (xs.map enc)] = .ok (.list ((srt enc xs).map enc)) := by
  show (sortD (xs.map enc)).bind _ = _
  unfold sortD
  rw [guard_of, srt_enc]
  · rfl
  · rw [Bool.and_eq_true, Bool.and_eq_true]
    refine ⟨⟨?_, ?_⟩, ?_⟩
    · rw [List.all_eq_true]; intro a ha
      rw [List.all_eq_true]; intro b hb
      obtain ⟨x, _, rfl⟩ := List.mem_map.mp ha
      obtain ⟨y, _, rfl⟩ := List.mem_map.mp hb
      exact hal x y
    · rw [List.all_eq_true]; intro a ha
      obtain ⟨x, hx, rfl⟩ := List.mem_map.mp ha
      exact decide_eq_true (hd x hx)
    · rw [List.all_eq_true]; intro a ha
      obtain ⟨x, hx, rfl⟩ := List.mem_map.mp ha
      have := hne x
      split
      · rename_i e; exact absurd e this
      · rfl
/-- trees are alike -/
theorem alike_trs : ∀ (a b : Tr), PySem.W.alike a.enc b.enc = true := by
  have h : ∀ (n : Nat) (a b : Tr), a.size ≤ n → PySem.W.alike a.enc b.enc = true := by
    intro n
    induction n with
    | zero => intro a b h; have := size_pos a; omega
    | succ n ih =>
      intro a b h
      obtain ⟨l, ks⟩ := a
      obtain ⟨l', ks'⟩ := b
      rw [Tr.size] at h
      have hs : ∀ (xs ys : List Tr), Tr.sizes xs ≤ n → PySem.W.alikeAll (Tr.encs xs) (Tr.encs ys) = true := by
        intro xs
        induction xs with
        | nil => intro ys _; rw [Tr.encs]; cases Tr.encs ys <;> simp [PySem.W.alikeAll]
        | cons x xs ihx =>
          intro ys hx
          rw [Tr.sizes] at hx
          cases ys with
          | nil => rw [Tr.encs, Tr.encs]; simp [PySem.W.alikeAll]
          | cons y ys => rw [Tr.encs, Tr.encs, PySem.W.alikeAll, ih x y (by omega), ihx ys (by omega)]; rfl
      rw [Tr.enc, Tr.enc]
      simp [PySem.W.alike, PySem.W.alikeAll, hs ks ks' (by omega)]
  exact fun a b => h a.size a b (Nat.le_refl _)
theorem encsT : Encs Tr.enc where
  al := alike_trs
  pl := pd_tr
  inj := tr_inj
end Pu
namespace Pu
open PySem L2
theorem in_nodes (n : Node) (ns : List Node) : cmpD .isin (encN n) (encNs ns) = .ok (decide (n ∈ ns)) := by
  unfold encNs
  rw [cmp_in_t (.inl (by have := depth_encN n; omega)), any_enc pd_encN (fun _ _ => encN_inj)]
  exact congrArg Rs.ok (decide_eq_decide.mpr Iff.rfl)
theorem notin_nodes (n : Node) (ns : List Node) : cmpD .notin (encN n) (encNs ns) = .ok (!decide (n ∈ ns)) := cmp_notin (in_nodes n ns)
theorem in_nodes_l (n : Node) (ns : List Node) : cmpD .isin (encN n) (.list (ns.map encN)) = .ok (decide (n ∈ ns)) := by
  rw [cmp_in_l (.inl (by have := depth_encN n; omega)), any_enc pd_encN (fun _ _ => encN_inj)]
  exact congrArg Rs.ok (decide_eq_decide.mpr Iff.rfl)
theorem it_r2i {a n : Nat} (h1 : a ≤ 1000) (h2 : n ≤ 1000) : items .range2 [.int (a : Int), .int (n : Int)] = .ok ((List.range (n - a)).map fun (i : Nat) => .int ((a : Int) + (i : Int))) := by
  rw [it_r2 h1 h2]
  rfl
end Pu
namespace Pu
open PySem L2
theorem loop_acc {α β : Type} {body : En → Fl} {tg : Tg} {kill : List Nat} {I : List β → En → Prop} {enc : α → D} {f : α → List β} {B : Nat} : ∀ (xs : List α) (acc : List β) (ρ : En), I acc ρ → acc.length + (xs.flatMap f).length ≤ B →
    (∀ x ∈ xs, ∀ acc ρ, I acc ρ → acc.length + (f x).length ≤ B → ∃ ρ', loopL body tg kill [enc x] ρ = .next ρ' ∧ I (acc ++ f x) ρ') → ∃ ρ', loopL body tg kill (xs.map enc) ρ = .next ρ' ∧ I (acc ++ xs.flatMap f) ρ'
  | [], acc, ρ, h, _, _ => ⟨ρ, rfl, by rw [List.flatMap_nil, List.append_nil]; exact h⟩
  | x :: xs, acc, ρ, h, hB, hs => by
    rw [List.flatMap_cons, List.length_append] at hB
    obtain ⟨ρ1, e1, h1⟩ := hs x (.head _) acc ρ h (by omega)
    obtain ⟨ρ2, e2, h2⟩ := loop_acc (I := I) (f := f) (B := B) xs (acc ++ f x) ρ1 h1 (by rw [List.length_append]; omega) fun y hy => hs y (.tail _ hy)
    refine ⟨ρ2, by rw [List.map_cons, loopL_one, e1]; exact e2, ?_⟩
    rw [List.flatMap_cons, ← List.append_assoc]
    exact h2
/-- a loop that always goes on, with a fact kept -/
theorem loop_keep {α : Type} {body : En → Fl} {tg : Tg} {kill : List Nat} {I : En → Prop} {enc : α → D} : ∀ (xs : List α) (ρ : En), I ρ →
    (∀ x ∈ xs, ∀ ρ, I ρ → ∃ ρ', loopL body tg kill [enc x] ρ = .next ρ' ∧ I ρ') → ∃ ρ', loopL body tg kill (xs.map enc) ρ = .next ρ' ∧ I ρ'
  | [], ρ, h, _ => ⟨ρ, rfl, h⟩
  | x :: xs, ρ, h, hs => by
    obtain ⟨ρ1, e1, h1⟩ := hs x (.head _) ρ h
    obtain ⟨ρ2, e2, h2⟩ := loop_keep (I := I) xs ρ1 h1 fun y hy => hs y (.tail _ hy)
    exact ⟨ρ2, by rw [List.map_cons, loopL_one, e1]; exact e2, h2⟩
theorem it_r1n {n : Nat} (h1 : n ≤ 1000) : items .range1 [.int (n : Int)] = .ok ((List.range n).map fun (i : Nat) => .int (i : Int)) := by
  have := it_r1 (n := (n : Int)) (by omega) (by omega)
  rw [Int.toNat_natCast] at this
  exact this
/-- steps, one after the other -/
theorem seq_next {C : Nat → List D → Rs D} {m : S} {ms : List S} {ρ ρ' : En} {r : Fl} (h : evS C m ρ = .next ρ') (h2 : evSs C ms ρ' = r) : evSs C (m :: ms) ρ = r := by
  rw [evSs_cons, h, Fl.seq_next, h2]
theorem filter_any {α : Type} (p : α → Bool) : ∀ xs : List α, (xs.filter p).isEmpty = !xs.any p
  | [] => rfl
  | x :: xs => by
    rw [List.filter_cons, List.any_cons, Bool.not_or, ← filter_any p xs]
    cases p x <;> rfl
end Pu
/-! paths as tables of steps; what is found, by tables; leadings -/
namespace Pu
open PySem L2
structure Row where
  ahead : Option Nat
  deep : Bool
  l : Str
mutual
def rowsSt : St → Option Nat → Nat → List Row
  | .mk d l ts, a, f => ⟨a, d, l⟩ :: rowsTs ts f (f + 1)
def rowsTs : List Pt → Nat → Nat → List Row
  | [], _, _ => []
  | p :: ps, n, f => rowsSs p (some n) f ++ rowsTs ps n (f + numP p)
def rowsSs : Pt → Option Nat → Nat → List Row
  | [], _, _ => []
  | s :: r, a, f => rowsSt s a f ++ rowsSs r (some f) (f + s.num)
end
def lastSs : Pt → Option Nat → Nat → Option Nat
  | [], a, _ => a
  | s :: r, _, f => lastSs r (some f) (f + s.num)
mutual
theorem rowsSt_len : ∀ (s : St) (a : Option Nat) (f : Nat), (rowsSt s a f).length = s.num
  | .mk d l ts, a, f => by rw [rowsSt, List.length_cons, rowsTs_len ts, St.num]; omega
theorem rowsTs_len : ∀ (ts : List Pt) (n f : Nat), (rowsTs ts n f).length = numTs ts
  | [], n, f => by rw [rowsTs, numTs]; rfl
  | p :: ps, n, f => by rw [rowsTs, List.length_append, rowsSs_len p, rowsTs_len ps, numTs]
theorem rowsSs_len : ∀ (p : Pt) (a : Option Nat) (f : Nat), (rowsSs p a f).length = numP p
  | [], a, f => by rw [rowsSs, numP]; rfl
  | s :: r, a, f => by rw [rowsSs, List.length_append, rowsSt_len s, rowsSs_len r, numP]
end
/-- the step ahead is the one given, or one of these -/
def AheadIn (a : Option Nat) (f m : Nat) (r : Row) : Prop := r.ahead = a ∨ ∃ j, r.ahead = some j ∧ f ≤ j ∧ j < m
mutual
theorem rowsSt_ahead : ∀ (s : St) (a : Option Nat) (f : Nat), ∀ i r, (rowsSt s a f)[i]? = some r → AheadIn a f (f + i) r
  | .mk d l ts, a, f, i, r, h => by
    rw [rowsSt] at h
    cases i with
    | zero => rw [List.getElem?_cons_zero] at h; cases h; exact .inl rfl
    | succ i =>
      rw [List.getElem?_cons_succ] at h
      rcases rowsTs_ahead ts f (f + 1) i r h with h | ⟨j, h1, h2, h3⟩
      · exact .inr ⟨f, h, Nat.le_refl _, by omega⟩
      · exact .inr ⟨j, h1, by omega, by omega⟩
theorem rowsTs_ahead : ∀ (ts : List Pt) (n f : Nat), ∀ i r, (rowsTs ts n f)[i]? = some r → AheadIn (some n) f (f + i) r
  | [], n, f, i, r, h => by rw [rowsTs] at h; simp at h
  | p :: ps, n, f, i, r, h => by
    rw [rowsTs, List.getElem?_append, rowsSs_len] at h
    split at h
    · exact rowsSs_ahead p (some n) f i r h
    · rename_i hi
      rcases rowsTs_ahead ps n _ _ r h with h | ⟨j, h1, h2, h3⟩
      · exact .inl h
      · exact .inr ⟨j, h1, by omega, by omega⟩
theorem rowsSs_ahead : ∀ (p : Pt) (a : Option Nat) (f : Nat), ∀ i r, (rowsSs p a f)[i]? = some r → AheadIn a f (f + i) r
  | [], a, f, i, r, h => by rw [rowsSs] at h; simp at h
  | s :: r0, a, f, i, r, h => by
    rw [rowsSs, List.getElem?_append, rowsSt_len] at h
    split at h
    · exact rowsSt_ahead s a f i r h
    · rename_i hi
      have hn := num_pos s
      rcases rowsSs_ahead r0 (some f) _ _ r h with h | ⟨j, h1, h2, h3⟩
      · exact .inr ⟨f, h, Nat.le_refl _, by omega⟩
      · exact .inr ⟨j, h1, by omega, by omega⟩
end
/-! steps in a tree -/
/-- from a place, or from above, to a node -/
def StepTo (d : Bool) : Option Node → Node → Prop
  | none, n => d = false → n = []
  | some m, n => ∃ r, n = m ++ r ∧ r ≠ [] ∧ (d = false → r.length = 1)
def kidsB (t : Tr) : Option Node → List (Node × Tr)
  | none => [([], t)]
  | some m => match t.sub m with
    | some s => kidsAt (m, s)
    | none => []
theorem mem_candsB {t : Tr} {d : Bool} {b : Option Node} {y : Node × Tr} (hb : ∀ m, b = some m → ∃ s, t.sub m = some s) : y ∈ cands d (kidsB t b) ↔ t.sub y.1 = some y.2 ∧ StepTo d b y.1 := by
  cases b with
  | none =>
    unfold kidsB cands StepTo
    cases d with
    | false =>
      simp only [Bool.false_eq_true, if_false, List.mem_singleton, forall_const]
      constructor
      · rintro rfl; exact ⟨rfl, rfl⟩
      · rintro ⟨h1, h2⟩
        obtain ⟨n, s⟩ := y
        have h2 : n = [] := h2
        subst h2
        have h1 : some t = some s := h1
        cases h1; rfl
    | true =>
      simp only [if_true, List.flatMap_cons, List.flatMap_nil, List.append_nil, Bool.true_eq_false, false_implies, and_true]
      exact mem_allT
  | some m =>
    obtain ⟨s, hs⟩ := hb m rfl
    have e : kidsB t (some m) = kidsAt (m, s) := by
      show (match t.sub m with | some s => kidsAt (m, s) | none => []) = _
      rw [hs]
    rw [e]
    constructor
    · intro h
      have h1 := cands_sub (t := t) (d := d) (kids := kidsAt (m, s)) (fun y hy => kids_sub (x := (m, s)) hs hy) y h
      refine ⟨h1, ?_⟩
      unfold cands at h
      cases d with
      | false =>
        simp only [Bool.false_eq_true, if_false] at h
        obtain ⟨j, k, hk, rfl⟩ := mem_kidsAt.mp h
        exact ⟨[j], rfl, by simp, fun _ => rfl⟩
      | true =>
        simp only [if_true] at h
        obtain ⟨z, hz, hy⟩ := List.mem_flatMap.mp h
        obtain ⟨j, k, hk, rfl⟩ := mem_kidsAt.mp hz
        obtain ⟨r, hr, _⟩ := mem_allT_n.mp hy
        refine ⟨j :: r, ?_, by simp, by simp⟩
        rw [hr]
        show m ++ [j] ++ r = m ++ j :: r
        simp
    · rintro ⟨h1, r, h2, h3, h4⟩
      obtain ⟨n, u⟩ := y
      have h2 : n = m ++ r := h2
      subst h2
      have h1 : t.sub (m ++ r) = some u := h1
      rw [sub_app, hs] at h1
      have h1 : s.sub r = some u := h1
      cases r with
      | nil => exact absurd rfl h3
      | cons j r =>
        rw [Tr.sub] at h1
        split at h1
        · rename_i k hk
          have hj : (m ++ [j], k) ∈ kidsAt (m, s) := mem_kidsAt.mpr ⟨j, k, hk, rfl⟩
          unfold cands
          cases d with
          | false =>
            have hr : r = [] := by
              have := h4 rfl
              rw [List.length_cons] at this
              exact List.eq_nil_of_length_eq_zero (by omega)
            subst hr
            cases h1
            exact hj
          | true =>
            simp only [if_true]
            refine List.mem_flatMap.mpr ⟨_, hj, mem_allT_n.mpr ⟨r, ?_, h1⟩⟩
            show m ++ j :: r = m ++ [j] ++ r
            simp
        · cases h1
/-- a row of the table holds at g -/
def Hit (t : Tr) (d : Bool) (l : Str) (b : Option Node) (n : Node) : Prop := (∃ s, t.sub n = some s ∧ s.let_ = l) ∧ StepTo d b n
def RowAt (t : Tr) (g : Nat → Node) (i : Nat) (r : Row) : Prop := Hit t r.deep r.l (r.ahead.map g) (g i)
/-- all rows from f on hold -/
def Emb (t : Tr) (g : Nat → Node) (rows : List Row) (f : Nat) : Prop := ∀ i r, rows[i]? = some r → RowAt t g (f + i) r
theorem Emb.append {t : Tr} {g : Nat → Node} {xs ys : List Row} {f : Nat} : Emb t g (xs ++ ys) f ↔ Emb t g xs f ∧ Emb t g ys (f + xs.length) := by
  constructor
  · intro h
    refine ⟨fun i r hi => h i r ?_, fun i r hi => ?_⟩
    · rw [List.getElem?_append_left (List.getElem?_eq_some_iff.mp hi).1]; exact hi
    · have := h (xs.length + i) r (by rw [List.getElem?_append_right (by omega), Nat.add_sub_cancel_left]; exact hi)
      rw [← Nat.add_assoc] at this
      exact this
  · rintro ⟨h1, h2⟩ i r hi
    rw [List.getElem?_append] at hi
    split at hi
    · exact h1 i r hi
    · have := h2 _ r hi
      rw [show f + xs.length + (i - xs.length) = f + i by omega] at this
      exact this
theorem Emb.cons {t : Tr} {g : Nat → Node} {x : Row} {ys : List Row} {f : Nat} : Emb t g (x :: ys) f ↔ RowAt t g f x ∧ Emb t g ys (f + 1) := by
  have := Emb.append (t := t) (g := g) (xs := [x]) (ys := ys) (f := f)
  rw [List.singleton_append] at this
  rw [this]
  refine and_congr ⟨fun h => h 0 x rfl, fun h i r hi => ?_⟩ Iff.rfl
  cases i with
  | zero => rw [List.getElem?_cons_zero] at hi; cases hi; exact h
  | succ i => simp at hi
theorem Emb.nil {t : Tr} {g : Nat → Node} {f : Nat} : Emb t g [] f := fun i r h => by simp at h
theorem Emb.congr {t : Tr} {g g' : Nat → Node} {rows : List Row} {f : Nat} (h1 : ∀ i, f ≤ i → i < f + rows.length → g i = g' i) (h2 : ∀ (i : Nat) (r : Row), rows[i]? = some r → r.ahead.map g = r.ahead.map g') (h : Emb t g rows f) : Emb t g' rows f := by
  intro i r hi
  have hl := (List.getElem?_eq_some_iff.mp hi).1
  have := h i r hi
  unfold RowAt at this ⊢
  rw [← h1 (f + i) (by omega) (by omega), ← h2 i r hi]
  exact this
/-- the same for the rows of a path: what lies ahead of them is a, or one of them -/
theorem Emb.congrA {t : Tr} {g g' : Nat → Node} {rows : List Row} {a : Option Nat} {f : Nat} (ha : ∀ (i : Nat) (r : Row), rows[i]? = some r → AheadIn a f (f + i) r) (h1 : ∀ i, f ≤ i → i < f + rows.length → g i = g' i) (h2 : a.map g = a.map g') (h : Emb t g rows f) : Emb t g' rows f :=
  Emb.congr h1 (fun i r hi => by
    have hl := (List.getElem?_eq_some_iff.mp hi).1
    rcases ha i r hi with e | ⟨j, e, e1, e2⟩
    · rw [e]; exact h2
    · rw [e, Option.map_some, Option.map_some, h1 j e1 (by omega)]) h
/-- g up to m, g' from there on -/
def glue (m : Nat) (g g' : Nat → Node) (i : Nat) : Node := if i < m then g i else g' i
theorem glue_lt {m i : Nat} {g g' : Nat → Node} (h : i < m) : glue m g g' i = g i := if_pos h
theorem glue_ge {m i : Nat} {g g' : Nat → Node} (h : m ≤ i) : glue m g g' i = g' i := if_neg (by omega)
theorem map_glue {m : Nat} {g g' : Nat → Node} {a : Option Nat} (h : ∀ j, a = some j → j < m) : a.map (glue m g g') = a.map g := by
  cases a with
  | none => rfl
  | some j => rw [Option.map_some, Option.map_some, glue_lt (h j rfl)]
def BaseOk (t : Tr) (b : Option Node) : Prop := ∀ m, b = some m → ∃ s, t.sub m = some s
theorem sub_baseOk {t : Tr} {n : Node} {s : Tr} (h : t.sub n = some s) : BaseOk t (some n) := fun m e => by cases e; exact ⟨s, h⟩
theorem kidsB_some {t : Tr} {n : Node} {s : Tr} (h : t.sub n = some s) : kidsB t (some n) = kidsAt (n, s) := by
  show (match t.sub n with | some s => kidsAt (n, s) | none => []) = _
  rw [h]
theorem kidsB_sub {t : Tr} {b : Option Node} (hb : BaseOk t b) : ∀ y ∈ kidsB t b, t.sub y.1 = some y.2 := by
  intro y hy
  cases b with
  | none =>
    rw [List.mem_singleton.mp hy]; rfl
  | some m =>
    obtain ⟨s, hs⟩ := hb m rfl
    rw [kidsB_some hs] at hy
    exact kids_sub (x := (m, s)) hs hy
/-- a path finds something from a place -/
def Has (t : Tr) (p : Pt) (b : Option Node) : Prop := hasB p (kidsB t b) = true
theorem lastN_cons (y : Node × Tr) (w : Way) : lastN (y :: w) = if w = [] then y.1 else lastN w := by
  cases w with
  | nil => rfl
  | cons z w =>
    unfold lastN
    rw [List.getLast?_cons_cons]
    rfl
theorem St.fit_iff {s : St} {y : Node × Tr} : s.fit y = true ↔ y.2.let_ = s.let_ ∧ ∀ q ∈ s.tests, hasB q (kidsAt y) = true := by
  obtain ⟨d, l, ts⟩ := s
  rw [fits_eq, Bool.and_eq_true, beq_iff_eq, List.all_eq_true]
  exact Iff.rfl
/-- from the step at f: the number of the last one -/
theorem lastSs_lt : ∀ (p : Pt) (a : Option Nat) (f : Nat), 1 ≤ p.length → ∃ j, lastSs p a f = some j ∧ f ≤ j ∧ j < f + numP p
  | [s], a, f, _ => ⟨f, rfl, Nat.le_refl _, by have := num_pos s; rw [numP]; omega⟩
  | s :: s2 :: r, a, f, _ => by
    obtain ⟨j, h1, h2, h3⟩ := lastSs_lt (s2 :: r) (some f) (f + s.num) (by rw [List.length_cons]; omega)
    refine ⟨j, h1, by omega, ?_⟩
    rw [numP]; omega
/-- where the rows hold, there is a way, and its last one is where the last row stands -/
theorem emb_tests {t : Tr} {g : Nat → Node} (H : ∀ (q : Pt) (a : Option Nat) (f : Nat), Emb t g (rowsSs q a f) f → BaseOk t (a.map g) → hasB q (kidsB t (a.map g)) = true) {n : Nat} {s : Tr} (hs : t.sub (g n) = some s) : ∀ (ts : List Pt) (f : Nat), Emb t g (rowsTs ts n f) f → ∀ q ∈ ts, hasB q (kidsAt (g n, s)) = true
  | [], f, _, q, hq => by cases hq
  | p :: ps, f, h, q, hq => by
    rw [rowsTs, Emb.append, rowsSs_len] at h
    have e := kidsB_some hs
    cases hq with
    | head =>
      have := H p (some n) f h.1 (sub_baseOk hs)
      rw [Option.map_some, e] at this
      exact this
    | tail _ hq => exact emb_tests H hs ps _ h.2 q hq
theorem emb_way {t : Tr} {g : Nat → Node} : ∀ (m : Nat) (p : Pt) (a : Option Nat) (f : Nat), numP p < m → Emb t g (rowsSs p a f) f → BaseOk t (a.map g) → ∃ w ∈ waysK p (kidsB t (a.map g)), ∀ j, lastSs p a f = some j → 1 ≤ p.length → lastN w = g j
  | m + 1, [], a, f, hm, h, hb => ⟨[], by rw [waysK]; exact .head _, fun j hj h1 => absurd h1 (by decide)⟩
  | m + 1, .mk d l ts :: r, a, f, hm, h, hb => by
    rw [rowsSs, Emb.append, rowsSt_len, rowsSt, Emb.cons] at h
    obtain ⟨⟨h1, h2⟩, h3⟩ := h
    obtain ⟨⟨s, hs, hl⟩, hst⟩ := h1
    have hl : s.let_ = l := hl
    rw [numP, St.num] at hm
    have hc : (g f, s) ∈ cands d (kidsB t (a.map g)) := (mem_candsB hb).mpr ⟨hs, hst⟩
    have e := kidsB_some hs
    have hfit : (St.mk d l ts).fit (g f, s) = true := by
      refine St.fit_iff.mpr ⟨hl, fun q hq => ?_⟩
      have hq : q ∈ ts := hq
      have aux : ∀ (xs : List Pt) (f2 : Nat), numTs xs < m → Emb t g (rowsTs xs f f2) f2 → ∀ q ∈ xs, hasB q (kidsAt (g f, s)) = true := by
        intro xs
        induction xs with
        | nil => intro f2 _ _ q hq; cases hq
        | cons x xs ih =>
          intro f2 hm2 h q hq
          rw [numTs] at hm2
          rw [rowsTs, Emb.append, rowsSs_len] at h
          cases hq with
          | head =>
            obtain ⟨w, hw, _⟩ := emb_way m x (some f) f2 (by omega) h.1 (sub_baseOk hs)
            rw [Option.map_some, e] at hw
            rw [hasB_ways]
            cases hz : waysK x (kidsAt (g f, s)) with
            | nil => rw [hz] at hw; cases hw
            | cons a b => rfl
          | tail _ hq => exact ih _ (by omega) h.2 q hq
      exact aux ts (f + 1) (by omega) h2 q hq
    obtain ⟨w, hw, hlast⟩ := emb_way m r (some f) (f + (St.mk d l ts).num) (by omega) h3 (sub_baseOk hs)
    rw [Option.map_some, e] at hw
    refine ⟨(g f, s) :: w, ?_, fun j hj _ => ?_⟩
    · rw [waysK]
      exact List.mem_flatMap.mpr ⟨(g f, s), List.mem_filter.mpr ⟨hc, hfit⟩, List.mem_map.mpr ⟨w, hw, rfl⟩⟩
    · rw [lastN_cons]
      have hlen := waysK_len r _ w hw
      cases r with
      | nil =>
        have : w = [] := List.eq_nil_of_length_eq_zero hlen
        rw [if_pos this]
        cases hj; rfl
      | cons s2 r2 =>
        rw [if_neg (by rintro rfl; rw [List.length_cons] at hlen; simp at hlen)]
        exact hlast j hj (by rw [List.length_cons]; omega)
/-- the other way round: a way gives places for all rows -/
theorem way_emb {t : Tr} : ∀ (m : Nat) (p : Pt) (a : Option Nat) (f : Nat) (g0 : Nat → Node), numP p < m → (∀ j, a = some j → j < f) → BaseOk t (a.map g0) → ∀ w ∈ waysK p (kidsB t (a.map g0)), ∃ g, (∀ i, i < f → g i = g0 i) ∧ Emb t g (rowsSs p a f) f ∧ ∀ j, lastSs p a f = some j → 1 ≤ p.length → lastN w = g j
  | m + 1, [], a, f, g0, hm, ha, hb, w, hw => ⟨g0, fun _ _ => rfl, by rw [rowsSs]; exact Emb.nil, fun j hj h1 => absurd h1 (by decide)⟩
  | m + 1, .mk d l ts :: r, a, f, g0, hm, ha, hb, w, hw => by
    rw [waysK] at hw
    obtain ⟨y, hy, hw⟩ := List.mem_flatMap.mp hw
    obtain ⟨v, hv, rfl⟩ := List.mem_map.mp hw
    obtain ⟨hc, hfit⟩ := List.mem_filter.mp hy
    obtain ⟨hs, hst⟩ := (mem_candsB hb).mp hc
    obtain ⟨hl, hts⟩ := St.fit_iff.mp hfit
    obtain ⟨n, s⟩ := y
    have hs : t.sub n = some s := hs
    have hl : s.let_ = l := hl
    have hts : ∀ q ∈ ts, hasB q (kidsAt (n, s)) = true := hts
    rw [numP, St.num] at hm
    have e := kidsB_some hs
    -- the step itself
    let g1 : Nat → Node := glue f g0 fun _ => n
    have hg1 : g1 f = n := glue_ge (Nat.le_refl _)
    have hg1b : ∀ i, i < f → g1 i = g0 i := fun i hi => glue_lt hi
    -- its tests
    have aux : ∀ (xs : List Pt) (f2 : Nat) (g1 : Nat → Node), numTs xs < m → f < f2 → g1 f = n → (∀ q ∈ xs, hasB q (kidsAt (n, s)) = true) → ∃ g, (∀ i, i < f2 → g i = g1 i) ∧ Emb t g (rowsTs xs f f2) f2 := by
      intro xs
      induction xs with
      | nil => intro f2 g1 _ _ _ _; exact ⟨g1, fun _ _ => rfl, by rw [rowsTs]; exact Emb.nil⟩
      | cons x xs ih =>
        intro f2 g1 hm2 hf hg hx
        rw [numTs] at hm2
        have h1 := hx x (.head _)
        rw [hasB_ways] at h1
        obtain ⟨v, hv⟩ : ∃ v, v ∈ waysK x (kidsAt (n, s)) := by
          cases hz : waysK x (kidsAt (n, s)) with
          | nil => rw [hz] at h1; cases h1
          | cons a b => exact ⟨a, .head _⟩
        rw [← e, ← hg] at hv
        obtain ⟨g2, k1, k2, _⟩ := way_emb m x (some f) f2 g1 (by omega) (fun j hj => by cases hj; exact hf) (by rw [Option.map_some, hg]; exact sub_baseOk hs) v hv
        obtain ⟨g3, k3, k4⟩ := ih (f2 + numP x) g2 (by omega) (by omega) (by rw [k1 f hf]; exact hg) fun q hq => hx q (.tail _ hq)
        refine ⟨g3, fun i hi => by rw [k3 i (by omega), k1 i hi], ?_⟩
        rw [rowsTs, Emb.append, rowsSs_len]
        refine ⟨Emb.congrA (rowsSs_ahead x (some f) f2) (fun i h1 h2 => ?_) ?_ k2, k4⟩
        · rw [rowsSs_len] at h2
          exact (k3 i h2).symm
        · rw [Option.map_some, Option.map_some, k3 f (by omega)]
    obtain ⟨g2, k1, k2⟩ := aux ts (f + 1) g1 (by omega) (by omega) hg1 hts
    have hg2 : g2 f = n := by rw [k1 f (by omega)]; exact hg1
    -- the rest
    rw [← e, ← hg2] at hv
    obtain ⟨g3, k3, k4, k5⟩ := way_emb m r (some f) (f + (St.mk d l ts).num) g2 (by omega) (fun j hj => by cases hj; rw [St.num]; omega) (by rw [Option.map_some, hg2]; exact sub_baseOk hs) v hv
    have hnum : (St.mk d l ts).num = 1 + numTs ts := by rw [St.num]
    have hg3 : g3 f = n := by rw [k3 f (by omega)]; exact hg2
    refine ⟨g3, fun i hi => by rw [k3 i (by omega), k1 i (by omega), hg1b i hi], ?_, fun j hj _ => ?_⟩
    · rw [rowsSs, Emb.append, rowsSt_len, rowsSt, Emb.cons]
      refine ⟨⟨⟨⟨s, by rw [hg3]; exact hs, hl⟩, ?_⟩, ?_⟩, k4⟩
      · show StepTo d (a.map g3) (g3 f)
        have : a.map g3 = a.map g0 := by
          cases a with
          | none => rfl
          | some j =>
            have := ha j rfl
            rw [Option.map_some, Option.map_some, k3 j (by omega), k1 j (by omega), hg1b j this]
        rw [this, hg3]
        exact hst
      · refine Emb.congrA (rowsTs_ahead ts f (f + 1)) (fun i h1 h2 => ?_) ?_ k2
        · rw [rowsTs_len] at h2
          exact (k3 i (by omega)).symm
        · rw [Option.map_some, Option.map_some, k3 f (by omega)]
    · rw [lastN_cons]
      have hlen := waysK_len r _ v hv
      cases r with
      | nil =>
        have : v = [] := List.eq_nil_of_length_eq_zero hlen
        rw [if_pos this]
        cases hj
        exact hg3.symm
      | cons s2 r2 =>
        rw [if_neg (by rintro rfl; rw [List.length_cons] at hlen; simp at hlen)]
        exact k5 j hj (by rw [List.length_cons]; omega)
end Pu
/-! plain trees; leadings; what is within -/
namespace Pu
open PySem L2
def tbl (p : Pt) : List Row := rowsSs p none 0
def lastP (p : Pt) : Nat := (lastSs p none 0).getD 0
theorem lastP_eq {p : Pt} (hp : 1 ≤ p.length) : lastSs p none 0 = some (lastP p) ∧ lastP p < numP p := by
  obtain ⟨j, h, _, h2⟩ := lastSs_lt p none 0 hp
  unfold lastP
  rw [h]
  exact ⟨rfl, by show j < _; omega⟩
theorem finds_iff {t : Tr} {p : Pt} {n : Node} (hp : 1 ≤ p.length) : n ∈ findsT p t ↔ ∃ g, Emb t g (tbl p) 0 ∧ g (lastP p) = n := by
  unfold findsT findsK
  rw [mem_setN, List.mem_map]
  obtain ⟨hl, _⟩ := lastP_eq hp
  constructor
  · rintro ⟨w, hw, rfl⟩
    obtain ⟨g, _, h2, h3⟩ := way_emb (t := t) (numP p + 1) p none 0 (fun _ => []) (by omega) (fun j h => by cases h) (fun m h => by cases h) w hw
    exact ⟨g, h2, (h3 _ hl hp).symm⟩
  · rintro ⟨g, h1, rfl⟩
    obtain ⟨w, hw, h3⟩ := emb_way (t := t) (numP p + 1) p none 0 (by omega) h1 (fun m h => by cases h)
    exact ⟨w, hw, h3 _ hl hp⟩
/-- by one or more steps back -/
inductive Back (R : List Row) : Nat → Nat → Prop where
  | one {i j : Nat} {r : Row} (h : R[i]? = some r) (ha : r.ahead = some j) : Back R i j
  | more {i j k : Nat} {r : Row} (h : R[i]? = some r) (ha : r.ahead = some k) (hb : Back R k j) : Back R i j
/-- a leading of R2 over R1 -/
def Leads (R1 R2 : List Row) (h : Nat → Nat) : Prop := ∀ (i : Nat) (r : Row), R2[i]? = some r → ∃ q, R1[h i]? = some q ∧ q.l = r.l ∧ (r.deep = false → q.deep = false ∧ q.ahead = r.ahead.map h) ∧ (r.deep = true → ∀ j, r.ahead = some j → Back R1 (h i) (h j))
theorem back_below {t : Tr} {g : Nat → Node} {R : List Row} (hE : Emb t g R 0) {i j : Nat} (hb : Back R i j) : ∃ r, g i = g j ++ r ∧ r ≠ [] := by
  have one : ∀ {i j : Nat} {r : Row}, R[i]? = some r → r.ahead = some j → ∃ r, g i = g j ++ r ∧ r ≠ [] := by
    intro i j r h ha
    have := (hE i r h).2
    rw [ha, Option.map_some, Nat.zero_add] at this
    obtain ⟨x, h1, h2, _⟩ := this
    exact ⟨x, h1, h2⟩
  induction hb with
  | one h ha => exact one h ha
  | more h ha _ ih =>
    obtain ⟨x, h1, h2⟩ := one h ha
    obtain ⟨y, h3, h4⟩ := ih
    exact ⟨y ++ x, by rw [h1, h3, List.append_assoc], by simp [h2]⟩
theorem leads_emb {t : Tr} {g : Nat → Node} {R1 R2 : List Row} {h : Nat → Nat} (hE : Emb t g R1 0) (hL : Leads R1 R2 h) : Emb t (fun i => g (h i)) R2 0 := by
  intro i r hr
  rw [Nat.zero_add]
  obtain ⟨q, h1, h2, h3, h4⟩ := hL i r hr
  have hq := hE (h i) q h1
  rw [Nat.zero_add] at hq
  obtain ⟨⟨s, hs, hl⟩, hst⟩ := hq
  refine ⟨⟨s, hs, hl.trans h2⟩, ?_⟩
  cases hd : r.deep with
  | false =>
    obtain ⟨h5, h6⟩ := h3 hd
    rw [h5, h6, Option.map_map] at hst
    exact hst
  | true =>
    cases ha : r.ahead with
    | none => exact fun h => by cases h
    | some j =>
      obtain ⟨x, e1, e2⟩ := back_below hE (h4 hd j ha)
      exact ⟨x, e1, e2, fun h => by cases h⟩
/-- led: what one finds, the other one finds -/
theorem leads_finds {p q : Pt} {h : Nat → Nat} (hp : 1 ≤ p.length) (hq : 1 ≤ q.length) (hL : Leads (tbl p) (tbl q) h) (hl : h (lastP q) = lastP p) (t : Tr) : ∀ n ∈ findsT p t, n ∈ findsT q t := by
  intro n hn
  obtain ⟨g, h1, h2⟩ := (finds_iff hp).mp hn
  exact (finds_iff hq).mpr ⟨_, leads_emb h1 hL, by show g (h (lastP q)) = n; rw [hl, h2]⟩
/-! the plain tree -/
def wrapT (d : Bool) (t : Tr) : Tr := if d then .mk "d" [t] else t
mutual
def treeSt : St → List Tr → Tr
  | .mk d l ts, more => wrapT d (.mk l (treeTs ts ++ more))
def treeTs : List Pt → List Tr
  | [] => []
  | p :: ps => treeSs p ++ treeTs ps
def treeSs : Pt → List Tr
  | [] => []
  | s :: r => [treeSt s (treeSs r)]
end
def downN (d : Bool) (m : Node) : Node := if d then m ++ [0] else m
mutual
def addrTs : List Pt → Node → Nat → List Node
  | [], _, _ => []
  | p :: ps, n, j => addrSs p (n ++ [j]) ++ addrTs ps n (j + (treeSs p).length)
def addrSt : St → Node → List Node
  | .mk d _ ts, m => downN d m :: addrTs ts (downN d m) 0
def addrSs : Pt → Node → List Node
  | [], _ => []
  | s :: r, m => addrSt s m ++ addrSs r (downN s.deep m ++ [(treeTs s.tests).length])
end
def nodeSs : Pt → Node
  | [] => []
  | s :: r => match r with
    | [] => downN s.deep []
    | _ => downN s.deep [] ++ (treeTs s.tests).length :: nodeSs r
def plainT (p : Pt) : Tr := (treeSs p).headD (.mk "d" [])
mutual
theorem addrTs_len : ∀ (ts : List Pt) (n : Node) (j : Nat), (addrTs ts n j).length = numTs ts
  | [], n, j => by rw [addrTs, numTs]; rfl
  | p :: ps, n, j => by rw [addrTs, List.length_append, addrSs_len p, addrTs_len ps, numTs]
theorem addrSt_len : ∀ (s : St) (m : Node), (addrSt s m).length = s.num
  | .mk d l ts, m => by rw [addrSt, List.length_cons, addrTs_len ts, St.num]; omega
theorem addrSs_len : ∀ (p : Pt) (m : Node), (addrSs p m).length = numP p
  | [], m => by rw [addrSs, numP]; rfl
  | s :: r, m => by rw [addrSs, List.length_append, addrSt_len s, addrSs_len r, numP]
end
/-! the addresses are all nodes but those of d, in order -/
theorem allF_app : ∀ (ks ls : List Tr) (n : Node) (i : Nat), allF n i (ks ++ ls) = allF n i ks ++ allF n (i + ks.length) ls
  | [], ls, n, i => by rw [List.nil_append, allF]; rfl
  | k :: ks, ls, n, i => by rw [List.cons_append, allF, allF, allF_app ks ls, List.append_assoc, List.length_cons, show i + 1 + ks.length = i + (ks.length + 1) by omega]
def notD (y : Node × Tr) : Bool := !(y.2.let_ == "d")
/-- letters of paths -/
def okL : Pt → Prop := goodP 1000000 1000000
theorem letS_ne {l : Str} (h : letS l) : (l == "d") = false := by
  rcases h with rfl | rfl | rfl <;> decide +kernel
theorem addr_root (d : Bool) (l : Str) (ks : List Tr) (m : Node) (h : letS l) : ((allT m (wrapT d (.mk l ks))).filter notD).map (·.1) = downN d m :: ((allF (downN d m) 0 ks).filter notD).map (·.1) := by
  have e : ∀ m, ((allT m (.mk l ks)).filter notD).map (·.1) = m :: ((allF m 0 ks).filter notD).map (·.1) := fun m => by
    rw [allT, List.filter_cons]
    have : notD (m, .mk l ks) = true := by
      show (!(l == "d")) = true
      rw [letS_ne h]; rfl
    rw [if_pos this]; rfl
  cases d with
  | false => exact e m
  | true =>
    show ((allT m (.mk "d" [.mk l ks])).filter notD).map (·.1) = _
    rw [allT, List.filter_cons]
    have : notD (m, .mk "d" [.mk l ks]) = false := by
      show (!(("d" : Str) == "d")) = false
      simp
    rw [if_neg (by rw [this]; decide), allF, allF, List.append_nil, e]
    rfl
mutual
theorem addrTs_eq {L K : Nat} : ∀ (ts : List Pt) (n : Node) (j : Nat), (∀ q ∈ ts, goodP L K q) → ((allF n j (treeTs ts)).filter notD).map (·.1) = addrTs ts n j
  | [], n, j, _ => by rw [treeTs, addrTs, allF]; rfl
  | p :: ps, n, j, h => by
    rw [treeTs, addrTs, allF_app, List.filter_append, List.map_append, addrTs_eq ps n _ fun q hq => h q (.tail _ hq), addrSs_eq p n j fun s hs => (goodP_iff.mp (h p (.head _))).2.2 s hs]
theorem addrSs_eq {L K : Nat} : ∀ (p : Pt) (n : Node) (j : Nat), (∀ s ∈ p, s.good L K) → ((allF n j (treeSs p)).filter notD).map (·.1) = addrSs p (n ++ [j])
  | [], n, j, _ => by rw [treeSs, addrSs, allF]; rfl
  | .mk d l ts :: r, n, j, h => by
    obtain ⟨h1, h2, h3⟩ := good_iff.mp (h _ (.head _))
    rw [treeSs, addrSs, addrSt, treeSt, allF, allF, List.append_nil, addr_root d l _ _ h1, allF_app, List.filter_append, List.map_append, addrTs_eq ts _ _ h3, Nat.zero_add, addrSs_eq r _ _ fun s hs => h s (.tail _ hs)]
    rfl
end
theorem addr_eq {L K : Nat} {p : Pt} (h : goodP L K p) : ((allT [] (plainT p)).filter notD).map (·.1) = addrSs p [] := by
  match p, h with
  | [], h => exact absurd (goodP_iff.mp h).1 (by decide)
  | .mk d l ts :: r, h =>
    have h' := (goodP_iff.mp h).2.2
    obtain ⟨h1, h2, h3⟩ := good_iff.mp (h' _ (.head _))
    show ((allT [] (treeSt (.mk d l ts) (treeSs r))).filter notD).map (·.1) = _
    rw [addrSs, addrSt, treeSt, addr_root d l _ _ h1, allF_app, List.filter_append, List.map_append, addrTs_eq ts _ _ h3, Nat.zero_add, addrSs_eq r _ _ fun s hs => h' s (.tail _ hs)]
    rfl
/-! no node twice -/
mutual
theorem allT_nodup : ∀ (t : Tr) (n : Node), ((allT n t).map (·.1)).Nodup
  | .mk l ks, n => by
    rw [allT, List.map_cons, List.nodup_cons]
    refine ⟨fun h => ?_, allF_nodup ks n 0⟩
    obtain ⟨y, hy, e⟩ := List.mem_map.mp h
    obtain ⟨j, r, hj, e2⟩ := allF_ext ks n 0 y hy
    rw [e] at e2
    have := congrArg List.length e2
    simp at this
theorem allF_nodup : ∀ (ks : List Tr) (n : Node) (i : Nat), ((allF n i ks).map (·.1)).Nodup
  | [], n, i => by rw [allF]; simp
  | k :: ks, n, i => by
    rw [allF, List.map_append, List.nodup_append]
    refine ⟨allT_nodup k _, allF_nodup ks n (i + 1), fun a ha b hb e => ?_⟩
    obtain ⟨y, hy, rfl⟩ := List.mem_map.mp ha
    obtain ⟨z, hz, rfl⟩ := List.mem_map.mp hb
    obtain ⟨r, hr, _⟩ := mem_allT_n.mp hy
    obtain ⟨j, r2, hj, hr2⟩ := allF_ext ks n (i + 1) z hz
    rw [hr, hr2, List.append_assoc] at e
    have e := List.append_cancel_left e
    have e := (List.cons.inj e).1
    omega
theorem allF_ext : ∀ (ks : List Tr) (n : Node) (i : Nat), ∀ y ∈ allF n i ks, ∃ j r, i ≤ j ∧ y.1 = n ++ j :: r
  | [], n, i, y, hy => by rw [allF] at hy; cases hy
  | k :: ks, n, i, y, hy => by
    rw [allF] at hy
    rcases List.mem_append.mp hy with hy | hy
    · obtain ⟨r, hr, _⟩ := mem_allT_n.mp hy
      exact ⟨i, r, Nat.le_refl _, by rw [hr, List.append_assoc]; rfl⟩
    · obtain ⟨j, r, hj, hr⟩ := allF_ext ks n (i + 1) y hy
      exact ⟨j, r, by omega, hr⟩
end
theorem nodes_nodup (t : Tr) : (nodesT t).Nodup := allT_nodup t []
theorem addr_nodup {L K : Nat} {p : Pt} (h : goodP L K p) : (addrSs p []).Nodup := by
  rw [← addr_eq h]
  exact List.Nodup.sublist (List.Sublist.map _ List.filter_sublist) (allT_nodup (plainT p) [])
theorem addr_mem {L K : Nat} {p : Pt} (h : goodP L K p) {n : Node} {s : Tr} (hs : (plainT p).sub n = some s) (hl : letS s.let_) : n ∈ addrSs p [] := by
  rw [← addr_eq h]
  refine List.mem_map.mpr ⟨(n, s), List.mem_filter.mpr ⟨mem_allT.mpr hs, ?_⟩, rfl⟩
  show (!(s.let_ == "d")) = true
  rw [letS_ne hl]; rfl
/-! how the addresses lie -/
/-- from the place ahead, or from above, to a step's own place -/
def Under : Option Node → Node → Prop
  | none, m => m = []
  | some u, m => ∃ k, m = u ++ [k]
def CanStep (t : Tr) (d : Bool) (b : Option Node) (n : Node) : Prop := ∃ m, Under b m ∧ n = downN d m ∧ (d = true → ∃ s, t.sub m = some s ∧ s.let_ = "d")
def Can (t : Tr) (g : Nat → Node) (i : Nat) (r : Row) : Prop := (∃ s, t.sub (g i) = some s ∧ s.let_ = r.l) ∧ CanStep t r.deep (r.ahead.map g) (g i)
theorem sub_wrap {t : Tr} {m : Node} {d : Bool} {u : Tr} (h : t.sub m = some (wrapT d u)) : t.sub (downN d m) = some u ∧ (d = true → ∃ s, t.sub m = some s ∧ s.let_ = "d") := by
  cases d with
  | false => exact ⟨h, fun e => by cases e⟩
  | true =>
    refine ⟨?_, fun _ => ⟨_, h, rfl⟩⟩
    show t.sub (m ++ [0]) = some u
    rw [sub_app, h]
    rfl
theorem sub_kid {t : Tr} {n : Node} {l : Str} {ks : List Tr} {j : Nat} {k : Tr} (h : t.sub n = some (.mk l ks)) (hj : ks[j]? = some k) : t.sub (n ++ [j]) = some k := by
  rw [sub_app, h]
  show (match ks[j]? with | some k => k.sub [] | none => none) = some k
  rw [hj]; rfl
mutual
theorem canTs {t : Tr} {g : Nat → Node} {l : Str} : ∀ (ts : List Pt) (n f : Nat) (ks ls : List Tr), t.sub (g n) = some (.mk l (ks ++ treeTs ts ++ ls)) → (∀ i x, (addrTs ts (g n) ks.length)[i]? = some x → g (f + i) = x) → ∀ i r, (rowsTs ts n f)[i]? = some r → Can t g (f + i) r
  | [], n, f, ks, ls, _, _, i, r, h => by rw [rowsTs] at h; simp at h
  | p :: ps, n, f, ks, ls, hs, hg, i, r, h => by
    rw [addrTs] at hg
    rw [treeTs] at hs
    rw [rowsTs, List.getElem?_append, rowsSs_len] at h
    split at h
    · rename_i hi
      refine canSs p (some n) f (g n ++ [ks.length]) (fun u hu => ?_) ⟨ks.length, rfl⟩ (fun i x hx => hg i x ?_) i r h
      · rw [List.append_assoc, List.append_assoc] at hs
        refine sub_kid hs ?_
        rw [List.getElem?_append_right (Nat.le_refl _), Nat.sub_self, hu]
        rfl
      · rw [List.getElem?_append_left (List.getElem?_eq_some_iff.mp hx).1]; exact hx
    · rename_i hi
      have := canTs (t := t) (g := g) ps n (f + numP p) (ks ++ treeSs p) ls (by rw [List.append_assoc ks]; exact hs) (fun i x hx => by
        have := hg (numP p + i) x (by rw [List.getElem?_append_right (by rw [addrSs_len]; omega), addrSs_len, Nat.add_sub_cancel_left, ← List.length_append]; exact hx)
        rw [← Nat.add_assoc] at this
        exact this) _ r h
      rw [show f + numP p + (i - numP p) = f + i by omega] at this
      exact this
theorem canSs {t : Tr} {g : Nat → Node} : ∀ (p : Pt) (a : Option Nat) (f : Nat) (m : Node), (∀ u, treeSs p = [u] → t.sub m = some u) → Under (a.map g) m → (∀ i x, (addrSs p m)[i]? = some x → g (f + i) = x) → ∀ i r, (rowsSs p a f)[i]? = some r → Can t g (f + i) r
  | [], a, f, m, _, _, _, i, r, h => by rw [rowsSs] at h; simp at h
  | .mk d l ts :: rr, a, f, m, hs, ha, hg, i, r, h => by
    have hs := hs _ (by rw [treeSs])
    rw [treeSt] at hs
    obtain ⟨h1, h2⟩ := sub_wrap hs
    rw [addrSs, addrSt] at hg
    have hgf : g f = downN d m := hg 0 _ (by rw [List.cons_append, List.getElem?_cons_zero])
    rw [rowsSs, List.getElem?_append, rowsSt_len] at h
    split at h
    · rename_i hi
      rw [rowsSt] at h
      cases i with
      | zero =>
        rw [List.getElem?_cons_zero] at h
        cases h
        rw [Nat.add_zero]
        exact ⟨⟨_, by rw [hgf]; exact h1, rfl⟩, m, ha, hgf, h2⟩
      | succ i =>
        rw [List.getElem?_cons_succ] at h
        have := canTs (t := t) (g := g) (l := l) ts f (f + 1) [] (treeSs rr) (by rw [hgf]; exact h1) (fun i x hx => by
          have := hg (i + 1) x (by
            rw [List.cons_append, List.getElem?_cons_succ, ← hgf, List.getElem?_append_left (by rw [addrTs_len]; have := (List.getElem?_eq_some_iff.mp hx).1; rw [addrTs_len] at this; exact this)]
            exact hx)
          rw [show f + 1 + i = f + (i + 1) by omega]
          exact this) i r h
        rw [show f + 1 + i = f + (i + 1) by omega] at this
        exact this
    · rename_i hi
      have := canSs (t := t) (g := g) rr (some f) (f + (St.mk d l ts).num) (g f ++ [(treeTs ts).length]) (fun u hu => by
        rw [hgf]
        refine sub_kid h1 ?_
        rw [List.getElem?_append_right (Nat.le_refl _), Nat.sub_self, hu]
        rfl) ⟨_, rfl⟩ (fun i x hx => by
        have := hg ((St.mk d l ts).num + i) x (by
          rw [List.getElem?_append_right (by rw [List.length_cons, addrTs_len, St.num]; omega), List.length_cons, addrTs_len, St.num, show 1 + numTs ts + i - (numTs ts + 1) = i by omega]
          rw [hgf] at hx
          exact hx)
        rw [← Nat.add_assoc] at this
        exact this) _ r h
      rw [show f + (St.mk d l ts).num + (i - (St.mk d l ts).num) = f + i by omega] at this
      exact this
end
/-- where the steps of a path stand in its plain tree -/
def placeP (p : Pt) (i : Nat) : Node := ((addrSs p [])[i]?).getD []
theorem placeP_get {p : Pt} {i : Nat} {x : Node} (h : (addrSs p [])[i]? = some x) : placeP p i = x := by unfold placeP; rw [h]; rfl
theorem can_plain {p : Pt} (hp : 1 ≤ p.length) : ∀ i r, (tbl p)[i]? = some r → Can (plainT p) (placeP p) i r := by
  intro i r h
  have := canSs (t := plainT p) (g := placeP p) p none 0 [] (fun u hu => by
    show some (plainT p) = some u
    unfold plainT; rw [hu]; rfl) rfl (fun i x hx => by rw [Nat.zero_add]; exact placeP_get hx) i r h
  rw [Nat.zero_add] at this
  exact this
theorem can_emb {t : Tr} {g : Nat → Node} {i : Nat} {r : Row} (h : Can t g i r) : RowAt t g i r := by
  obtain ⟨h1, m, h2, h3, _⟩ := h
  refine ⟨h1, ?_⟩
  cases ha : r.ahead.map g with
  | none =>
    rw [ha] at h2
    have h2 : m = [] := h2
    intro hd
    rw [h3, hd, h2]; rfl
  | some u =>
    rw [ha] at h2
    obtain ⟨k, hk⟩ := h2
    cases hd : r.deep with
    | false =>
      rw [hd] at h3
      exact ⟨[k], by rw [h3, hk]; rfl, by simp, fun _ => rfl⟩
    | true =>
      rw [hd] at h3
      exact ⟨[k, 0], by rw [h3, hk]; show u ++ [k] ++ [0] = _; rw [List.append_assoc]; rfl, by simp, fun h => by cases h⟩
theorem plain_emb {p : Pt} (hp : 1 ≤ p.length) : Emb (plainT p) (placeP p) (tbl p) 0 := fun i r h => by
  rw [Nat.zero_add]
  exact can_emb (can_plain hp i r h)
/-- the node of the last step -/
theorem last_place : ∀ (p : Pt) (a : Option Nat) (f : Nat) (m : Node) (j : Nat), lastSs p a f = some j → 1 ≤ p.length → (addrSs p m)[j - f]? = some (m ++ nodeSs p)
  | [.mk d l ts], a, f, m, j, h, _ => by
    cases h
    rw [Nat.sub_self, addrSs, addrSt, List.cons_append, List.getElem?_cons_zero]
    show some (downN d m) = some (m ++ downN d [])
    cases d
    · show some m = some (m ++ []); rw [List.append_nil]
    · rfl
  | .mk d l ts :: s2 :: r, a, f, m, j, h, _ => by
    have h : lastSs (s2 :: r) (some f) (f + (St.mk d l ts).num) = some j := h
    have h2 : 1 ≤ (s2 :: r).length := by rw [List.length_cons]; omega
    have ih := last_place (s2 :: r) (some f) (f + (St.mk d l ts).num) (downN d m ++ [(treeTs ts).length]) j h h2
    obtain ⟨j', e1, e2, e3⟩ := lastSs_lt (s2 :: r) (some f) (f + (St.mk d l ts).num) h2
    rw [h] at e1
    cases e1
    rw [addrSs, List.getElem?_append_right (by rw [addrSt_len]; omega), addrSt_len, show j - f - (St.mk d l ts).num = j - (f + (St.mk d l ts).num) by omega]
    show (addrSs (s2 :: r) (downN d m ++ [(treeTs ts).length]))[_]? = _
    rw [ih]
    show some (downN d m ++ [(treeTs ts).length] ++ nodeSs (s2 :: r)) = some (m ++ (downN d [] ++ (treeTs ts).length :: nodeSs (s2 :: r)))
    cases d
    · show some (m ++ [(treeTs ts).length] ++ nodeSs (s2 :: r)) = some (m ++ ([] ++ _))
      simp
    · show some (m ++ [0] ++ [(treeTs ts).length] ++ nodeSs (s2 :: r)) = some (m ++ ([0] ++ _))
      simp
theorem place_last {p : Pt} (hp : 1 ≤ p.length) : placeP p (lastP p) = nodeSs p := by
  have := last_place p none 0 [] (lastP p) (lastP_eq hp).1 hp
  rw [Nat.sub_zero, List.nil_append] at this
  exact placeP_get this
/-- a path is found in its own plain tree -/
theorem plain_finds {p : Pt} (hp : 1 ≤ p.length) : nodeSs p ∈ findsT p (plainT p) :=
  (finds_iff hp).mpr ⟨placeP p, plain_emb hp, place_last hp⟩
/-! what the plain tree tells of leadings -/
theorem nodup_inj {α : Type} {xs : List α} (h : xs.Nodup) {i j : Nat} (hi : i < xs.length) (hj : j < xs.length) (e : xs[i] = xs[j]) : i = j := by
  rcases Nat.lt_trichotomy i j with h1 | h1 | h1
  · exact absurd e (List.pairwise_iff_getElem.mp h i j hi hj h1)
  · exact h1
  · exact absurd e.symm (List.pairwise_iff_getElem.mp h j i hj hi h1)
theorem place_inj {L K : Nat} {p : Pt} (h : goodP L K p) {i j : Nat} (hi : i < numP p) (hj : j < numP p) (e : placeP p i = placeP p j) : i = j := by
  have hn := addr_nodup h
  have hl := addrSs_len p []
  have hi' : i < (addrSs p []).length := by omega
  have hj' : j < (addrSs p []).length := by omega
  rw [placeP_get (List.getElem?_eq_getElem hi'), placeP_get (List.getElem?_eq_getElem hj')] at e
  exact nodup_inj hn hi' hj' e
theorem tab_len (p : Pt) : (tbl p).length = numP p := rowsSs_len p none 0
theorem tab_get {p : Pt} {i : Nat} (h : i < numP p) : ∃ r, (tbl p)[i]? = some r := ⟨_, List.getElem?_eq_getElem (by rw [tab_len]; exact h)⟩
theorem tab_lt {p : Pt} {i : Nat} {r : Row} (h : (tbl p)[i]? = some r) : i < numP p := by
  rw [← tab_len]; exact (List.getElem?_eq_some_iff.mp h).1
theorem tab_ahead {p : Pt} {i : Nat} {r : Row} (h : (tbl p)[i]? = some r) : ∀ j, r.ahead = some j → j < i := by
  intro j hj
  rcases rowsSs_ahead p none 0 i r h with e | ⟨k, e, _, e2⟩
  · rw [hj] at e; cases e
  · rw [hj] at e; cases e; omega
mutual
theorem rowsSt_let {L K : Nat} : ∀ (s : St) (a : Option Nat) (f : Nat), s.good L K → ∀ r ∈ rowsSt s a f, letS r.l
  | .mk d l ts, a, f, h, r, hr => by
    obtain ⟨h1, _, h3⟩ := good_iff.mp h
    rw [rowsSt] at hr
    cases hr with
    | head => exact h1
    | tail _ hr => exact rowsTs_let ts _ _ h3 r hr
theorem rowsTs_let {L K : Nat} : ∀ (ts : List Pt) (n f : Nat), (∀ q ∈ ts, goodP L K q) → ∀ r ∈ rowsTs ts n f, letS r.l
  | [], n, f, _, r, hr => by rw [rowsTs] at hr; cases hr
  | p :: ps, n, f, h, r, hr => by
    rw [rowsTs] at hr
    rcases List.mem_append.mp hr with hr | hr
    · exact rowsSs_let p _ _ (goodP_iff.mp (h p (.head _))).2.2 r hr
    · exact rowsTs_let ps _ _ (fun q hq => h q (.tail _ hq)) r hr
theorem rowsSs_let {L K : Nat} : ∀ (p : Pt) (a : Option Nat) (f : Nat), (∀ s ∈ p, s.good L K) → ∀ r ∈ rowsSs p a f, letS r.l
  | [], a, f, _, r, hr => by rw [rowsSs] at hr; cases hr
  | s :: p, a, f, h, r, hr => by
    rw [rowsSs] at hr
    rcases List.mem_append.mp hr with hr | hr
    · exact rowsSt_let s _ _ (h s (.head _)) r hr
    · exact rowsSs_let p _ _ (fun q hq => h q (.tail _ hq)) r hr
end
theorem tab_let {L K : Nat} {p : Pt} (h : goodP L K p) {i : Nat} {r : Row} (hr : (tbl p)[i]? = some r) : letS r.l :=
  rowsSs_let p none 0 (goodP_iff.mp h).2.2 r (List.mem_of_getElem? hr)
/-- a step's place has no letter d -/
theorem place_notD {L K : Nat} {p : Pt} (h : goodP L K p) {i : Nat} (hi : i < numP p) {s : Tr} (hs : (plainT p).sub (placeP p i) = some s) : s.let_ ≠ "d" := by
  obtain ⟨r, hr⟩ := tab_get hi
  obtain ⟨⟨s', h1, h2⟩, _⟩ := can_plain (goodP_iff.mp h).1 i r hr
  rw [hs] at h1
  cases h1
  rw [h2]
  have := letS_ne (tab_let h hr)
  intro e
  rw [e] at this
  simp at this
/-- right below: the step ahead, and a way in -/
theorem place_kid {L K : Nat} {p : Pt} (h : goodP L K p) {i j k : Nat} {r : Row} (hr : (tbl p)[i]? = some r) (hj : j < numP p) (e : placeP p i = placeP p j ++ [k]) : r.ahead = some j ∧ r.deep = false := by
  obtain ⟨_, m, h2, h3, h4⟩ := can_plain (goodP_iff.mp h).1 i r hr
  have hi := tab_lt hr
  cases hd : r.deep with
  | true =>
    exfalso
    obtain ⟨s, hs, hsl⟩ := h4 hd
    rw [hd, e] at h3
    have h3 : placeP p j ++ [k] = m ++ [0] := h3
    have : placeP p j = m := (List.append_inj' h3 rfl).1
    rw [← this] at hs
    exact place_notD h hj hs hsl
  | false =>
    rw [hd, e] at h3
    have h3 : placeP p j ++ [k] = m := h3
    cases ha : r.ahead with
    | none =>
      rw [ha] at h2
      have h2 : m = [] := h2
      rw [h2] at h3
      simp at h3
    | some j' =>
      rw [ha] at h2
      obtain ⟨k', hk⟩ := h2
      rw [hk] at h3
      have e2 : placeP p j = placeP p j' := (List.append_inj' h3 rfl).1
      have := place_inj h hj (by have := tab_ahead hr j' ha; omega) e2
      rw [this]
      exact ⟨rfl, rfl⟩
theorem place_root {L K : Nat} {p : Pt} (h : goodP L K p) {i : Nat} {r : Row} (hr : (tbl p)[i]? = some r) (e : placeP p i = []) : r.ahead = none ∧ r.deep = false := by
  obtain ⟨_, m, h2, h3, h4⟩ := can_plain (goodP_iff.mp h).1 i r hr
  rw [e] at h3
  cases hd : r.deep with
  | true =>
    rw [hd] at h3
    have h3 : [] = m ++ [0] := h3
    simp at h3
  | false =>
    rw [hd] at h3
    have h3 : [] = m := h3
    cases ha : r.ahead with
    | none => exact ⟨rfl, rfl⟩
    | some j' =>
      rw [ha] at h2
      obtain ⟨k', hk⟩ := h2
      rw [← h3] at hk
      simp at hk
/-- below: by steps back -/
theorem place_below {L K : Nat} {p : Pt} (h : goodP L K p) : ∀ (n i j : Nat) (x : Node), i ≤ n → i < numP p → j < numP p → placeP p i = placeP p j ++ x → x ≠ [] → Back (tbl p) i j := by
  intro n
  induction n with
  | zero =>
    intro i j x hn hi hj e hx
    obtain ⟨r, hr⟩ := tab_get hi
    exact place_below_step h 0 (fun i' hi' => absurd hi' (by omega)) i j x hn hr hj e hx
  | succ n ih =>
    intro i j x hn hi hj e hx
    obtain ⟨r, hr⟩ := tab_get hi
    exact place_below_step h (n + 1) (fun i' hi' j x h1 h2 h3 h4 => ih i' j x (by omega) h1 h2 h3 h4) i j x hn hr hj e hx
where
  place_below_step {L K : Nat} {p : Pt} (h : goodP L K p) (n : Nat) (ih : ∀ i', i' < n → ∀ (j : Nat) (x : Node), i' < numP p → j < numP p → placeP p i' = placeP p j ++ x → x ≠ [] → Back (tbl p) i' j) (i j : Nat) (x : Node) (hn : i ≤ n) {r : Row} (hr : (tbl p)[i]? = some r) (hj : j < numP p) (e : placeP p i = placeP p j ++ x) (hx : x ≠ []) : Back (tbl p) i j := by
    obtain ⟨_, m, h2, h3, h4⟩ := can_plain (goodP_iff.mp h).1 i r hr
    -- what lies below j ends in m
    have hm : ∃ y, m = placeP p j ++ y ∧ (r.deep = false → y ≠ []) := by
      cases hd : r.deep with
      | false =>
        rw [hd, e] at h3
        exact ⟨x, h3.symm, fun _ => hx⟩
      | true =>
        rw [hd, e] at h3
        have h3 : placeP p j ++ x = m ++ [0] := h3
        obtain ⟨y, z, rfl⟩ : ∃ y z, x = y ++ [z] := ⟨x.dropLast, x.getLast hx, (List.dropLast_concat_getLast hx).symm⟩
        rw [← List.append_assoc] at h3
        exact ⟨y, (List.append_inj' h3 rfl).1.symm, fun h => by cases h⟩
    obtain ⟨y, hy, hy0⟩ := hm
    have hyne : y ≠ [] := by
      cases hd : r.deep with
      | false => exact hy0 hd
      | true =>
        rintro rfl
        obtain ⟨s, hs, hsl⟩ := h4 hd
        rw [hy, List.append_nil] at hs
        exact place_notD h hj hs hsl
    cases ha : r.ahead with
    | none =>
      rw [ha] at h2
      have h2 : m = [] := h2
      rw [h2] at hy
      have := (List.append_eq_nil_iff.mp hy.symm).2
      exact absurd this hyne
    | some j' =>
      rw [ha] at h2
      obtain ⟨k', hk⟩ := h2
      have hlt := tab_ahead hr j' ha
      have hi := tab_lt hr
      obtain ⟨z, w, rfl⟩ : ∃ z w, y = z ++ [w] := ⟨y.dropLast, y.getLast hyne, (List.dropLast_concat_getLast hyne).symm⟩
      rw [hk, ← List.append_assoc] at hy
      have e2 : placeP p j' = placeP p j ++ z := (List.append_inj' hy rfl).1
      by_cases hz : z = []
      · rw [hz, List.append_nil] at e2
        have := place_inj h (by omega) hj e2
        rw [← this]
        exact .one hr ha
      · exact .more hr ha (ih j' (by omega) j z (by omega) hj e2 hz)
/-- where the plain tree of the one has a find of the other at its node, there is a leading -/
theorem plain_leads {L K L' K' : Nat} {p q : Pt} (hp : goodP L K p) (hq : goodP L' K' q) (hn : nodeSs p ∈ findsT q (plainT p)) : ∃ h, Leads (tbl p) (tbl q) h ∧ h (lastP q) = lastP p ∧ ∀ i, i < numP q → h i < numP p := by
  have hp1 := (goodP_iff.mp hp).1
  have hq1 := (goodP_iff.mp hq).1
  obtain ⟨g, hE, hl⟩ := (finds_iff hq1).mp hn
  -- each place is that of a step
  have hex : ∀ i, ∃ k, i < numP q → k < numP p ∧ placeP p k = g i := fun i => by
    by_cases hi : i < numP q
    · obtain ⟨r, hr⟩ := tab_get hi
      have := hE i r hr
      rw [Nat.zero_add] at this
      obtain ⟨⟨s, hs, hsl⟩, _⟩ := this
      have hmem := addr_mem hp hs (by rw [hsl]; exact tab_let hq hr)
      obtain ⟨k, hk⟩ := List.mem_iff_getElem?.mp hmem
      have hkl := (List.getElem?_eq_some_iff.mp hk).1
      rw [addrSs_len] at hkl
      exact ⟨k, fun _ => ⟨hkl, placeP_get hk⟩⟩
    · exact ⟨0, fun h => absurd h hi⟩
  obtain ⟨h, hh⟩ := Classical.axiomOfChoice hex
  refine ⟨h, fun i r hr => ?_, ?_, fun i hi => (hh i hi).1⟩
  · have hi := tab_lt hr
    obtain ⟨h1, h2⟩ := hh i hi
    obtain ⟨w, hw⟩ := tab_get h1
    have hrow := hE i r hr
    rw [Nat.zero_add] at hrow
    obtain ⟨⟨s, hs, hsl⟩, hst⟩ := hrow
    obtain ⟨⟨s', hs', hsl'⟩, _⟩ := can_plain hp1 (h i) w hw
    rw [h2, hs] at hs'
    cases hs'
    refine ⟨w, hw, hsl'.symm.trans hsl, fun hd => ?_, fun hd j hj => ?_⟩
    · rw [hd] at hst
      cases ha : r.ahead with
      | none =>
        rw [ha] at hst
        have := hst rfl
        rw [← h2] at this
        obtain ⟨a, b⟩ := place_root hp hw this
        exact ⟨b, a⟩
      | some j =>
        rw [ha] at hst
        have hj := tab_ahead hr j ha
        obtain ⟨x, e1, e2, e3⟩ := hst
        have := e3 rfl
        obtain ⟨k, rfl⟩ : ∃ k, x = [k] := by
          match x, this with
          | [k], _ => exact ⟨k, rfl⟩
        rw [← h2, ← (hh j (by omega)).2] at e1
        obtain ⟨a, b⟩ := place_kid hp hw (hh j (by omega)).1 e1
        exact ⟨b, a⟩
    · rw [hj] at hst
      have hjl := tab_ahead hr j hj
      obtain ⟨x, e1, e2, _⟩ := hst
      rw [← h2, ← (hh j (by omega)).2] at e1
      exact place_below hp (h i) (h i) (h j) x (Nat.le_refl _) h1 (hh j (by omega)).1 e1 e2
  · have hll := (lastP_eq hq1).2
    obtain ⟨a, b⟩ := hh (lastP q) hll
    rw [hl, ← place_last hp1] at b
    exact place_inj hp a (lastP_eq hp1).2 b
/-! what is within -/
def Within (p q : Pt) : Prop := ∀ t, ∀ n ∈ findsT p t, n ∈ findsT q t
theorem within_iff {L K L' K' : Nat} {p q : Pt} (hp : goodP L K p) (hq : goodP L' K' q) : (∃ h, Leads (tbl p) (tbl q) h ∧ h (lastP q) = lastP p ∧ ∀ i, i < numP q → h i < numP p) ↔ Within p q :=
  ⟨fun ⟨h, h1, h2, _⟩ t => leads_finds (goodP_iff.mp hp).1 (goodP_iff.mp hq).1 h1 h2 t, fun h => plain_leads hp hq (h _ _ (plain_finds (goodP_iff.mp hp).1))⟩
theorem within_plain {L K L' K' : Nat} {p q : Pt} (hp : goodP L K p) (hq : goodP L' K' q) : Within p q ↔ nodeSs p ∈ findsT q (plainT p) :=
  ⟨fun h => h _ _ (plain_finds (goodP_iff.mp hp).1), fun h => (within_iff hp hq).mp (plain_leads hp hq h)⟩
theorem Within.refl (p : Pt) : Within p p := fun _ _ h => h
theorem Within.trans {p q r : Pt} (h1 : Within p q) (h2 : Within q r) : Within p r := fun t n h => h2 t n (h1 t n h)
/-! tables as data -/
def encA : Option Nat → D
  | none => .none
  | some j => .int (j : Int)
def encRow (r : Row) : D := .tuple [encA r.ahead, .str (wayS r.deep), .str r.l]
def tabD (R : List Row) : D := .tuple (R.map encRow)
theorem encA_inj {a b : Option Nat} (h : encA a = encA b) : a = b := by
  cases a <;> cases b
  · rfl
  · cases h
  · cases h
  · rename_i i j
    have : (i : Int) = (j : Int) := PyData.int.inj h
    rw [show i = j by omega]
theorem pd_encA (a : Option Nat) : pd (encA a) = true := by cases a <;> rfl
theorem depth_encA (a : Option Nat) : (encA a).depth = 0 := by cases a <;> rfl
theorem eq_encA (a b : Option Nat) : cmpD .eq (encA a) (encA b) = .ok (decide (a = b)) := by
  rw [cmp_eq (.inl (by rw [depth_encA]; decide)), eqv_enc pd_encA (fun _ _ => encA_inj)]
theorem ne_encA (a b : Option Nat) : cmpD .ne (encA a) (encA b) = .ok (!decide (a = b)) := by
  rw [cmp_ne (.inl (by rw [depth_encA]; decide)), eqv_enc pd_encA (fun _ _ => encA_inj)]
theorem isn_encA (a : Option Nat) : isD (encA a) .none = .ok (decide (a = none)) := by cases a <;> rfl
theorem ix_tabD {R : List Row} {i : Nat} {r : Row} (h : R[i]? = some r) : ixD (tabD R) (.int (i : Int)) = .ok (encRow r) := by
  unfold tabD
  exact ix_nat_t (by rw [List.getElem?_map, h]; rfl)
theorem len_tabD (R : List Row) : biD .len [tabD R] = .ok (.int R.length) := by unfold tabD; rw [bi_len_t, List.length_map]
theorem ix_row0 (r : Row) : ixD (encRow r) (.int 0) = .ok (encA r.ahead) := rfl
theorem ix_row1 (r : Row) : ixD (encRow r) (.int 1) = .ok (.str (wayS r.deep)) := rfl
theorem ix_row2 (r : Row) : ixD (encRow r) (.int 2) = .ok (.str r.l) := rfl
theorem eq_str (a b : Str) : cmpD .eq (.str a) (.str b) = .ok (a == b) := by
  rw [cmp_eq (.inl (Nat.zero_le _))]; simp [PyData.eqv]
theorem ne_str (a b : Str) : cmpD .ne (.str a) (.str b) = .ok (!(a == b)) := by
  rw [cmp_ne (.inl (Nat.zero_le _))]; simp [PyData.eqv]
theorem eq_in (d : Bool) : cmpD .eq (.str (wayS d)) (.str "in") = .ok (!d) := by
  rw [eq_str]; exact congrArg Rs.ok (by cases d <;> decide +kernel)
theorem eq_deep (d : Bool) : cmpD .eq (.str (wayS d)) (.str "deep") = .ok d := by
  rw [eq_str]; exact congrArg Rs.ok (by cases d <;> decide +kernel)
/-! which step may go where, those ahead being told -/
def Fits (R1 R2 : List Row) (row : List Nat) (i target : Nat) : Prop := ∃ r q, R2[i]? = some r ∧ R1[target]? = some q ∧ q.l = r.l ∧ (r.deep = false → q.deep = false ∧ q.ahead = r.ahead.map fun a => row.getD a 0) ∧ (r.deep = true → ∀ j, r.ahead = some j → Back R1 target (row.getD j 0))
/-- a beginning of a leading; e: the ends -/
def Pre (R1 R2 : List Row) (e1 e2 : Nat) (row : List Nat) : Prop := row.length ≤ R2.length ∧ ∀ i x, row[i]? = some x → Fits R1 R2 row i x ∧ (i = e2 → x = e1)
theorem fits_lt {R1 R2 : List Row} {row : List Nat} {i x : Nat} (h : Fits R1 R2 row i x) : i < R2.length ∧ x < R1.length := by
  obtain ⟨r, q, h1, h2, _⟩ := h
  exact ⟨(List.getElem?_eq_some_iff.mp h1).1, (List.getElem?_eq_some_iff.mp h2).1⟩
/-- the steps ahead have smaller numbers -/
def Desc (R : List Row) : Prop := ∀ (i : Nat) (r : Row), R[i]? = some r → ∀ j, r.ahead = some j → j < i
theorem tab_desc (p : Pt) : Desc (tbl p) := fun i r h j hj => tab_ahead h j hj
theorem fits_ext {R1 R2 : List Row} (hd : Desc R2) {row row' : List Nat} {i x : Nat} (he : ∀ j, j < i → row.getD j 0 = row'.getD j 0) : Fits R1 R2 row i x ↔ Fits R1 R2 row' i x := by
  have aux : ∀ {row row' : List Nat}, (∀ j, j < i → row.getD j 0 = row'.getD j 0) → Fits R1 R2 row i x → Fits R1 R2 row' i x := by
    rintro row row' he ⟨r, q, h1, h2, h3, h4, h5⟩
    refine ⟨r, q, h1, h2, h3, fun h => ?_, fun h j hj => ?_⟩
    · obtain ⟨a, b⟩ := h4 h
      refine ⟨a, b.trans ?_⟩
      cases ha : r.ahead with
      | none => rfl
      | some j => rw [Option.map_some, Option.map_some, he j (hd i r h1 j ha)]
    · rw [← he j (hd i r h1 j hj)]
      exact h5 h j hj
  exact ⟨aux he, aux fun j hj => (he j hj).symm⟩
theorem getD_app_lt {row more : List Nat} {j : Nat} (h : j < row.length) : (row ++ more).getD j 0 = row.getD j 0 := by
  rw [List.getD_eq_getElem?_getD, List.getD_eq_getElem?_getD, List.getElem?_append_left h]
theorem Pre.snoc {R1 R2 : List Row} {e1 e2 : Nat} (hd : Desc R2) {row : List Nat} {x : Nat} : Pre R1 R2 e1 e2 (row ++ [x]) ↔ Pre R1 R2 e1 e2 row ∧ Fits R1 R2 row row.length x ∧ (row.length = e2 → x = e1) := by
  constructor
  · rintro ⟨h1, h2⟩
    rw [List.length_append, List.length_singleton] at h1
    refine ⟨⟨by omega, fun i y hy => ?_⟩, ?_⟩
    · have hl := (List.getElem?_eq_some_iff.mp hy).1
      obtain ⟨a, b⟩ := h2 i y (by rw [List.getElem?_append_left hl]; exact hy)
      exact ⟨(fits_ext hd fun j hj => getD_app_lt (by omega)).mp a, b⟩
    · obtain ⟨a, b⟩ := h2 row.length x (by rw [List.getElem?_append_right (Nat.le_refl _), Nat.sub_self]; rfl)
      exact ⟨(fits_ext hd fun j hj => getD_app_lt hj).mp a, b⟩
  · rintro ⟨⟨h1, h2⟩, h3, h4⟩
    refine ⟨by rw [List.length_append, List.length_singleton]; have := (fits_lt h3).1; omega, fun i y hy => ?_⟩
    rw [List.getElem?_append] at hy
    split at hy
    · rename_i hl
      obtain ⟨a, b⟩ := h2 i y hy
      exact ⟨(fits_ext hd fun j hj => getD_app_lt (by omega)).mpr a, b⟩
    · rename_i hl
      have : i - row.length = 0 := by
        have := (List.getElem?_eq_some_iff.mp hy).1
        rw [List.length_singleton] at this
        omega
      have e : i = row.length := by omega
      subst e
      rw [Nat.sub_self] at hy
      cases hy
      exact ⟨(fits_ext hd fun j hj => getD_app_lt hj).mpr h3, h4⟩
theorem Pre.prefix {R1 R2 : List Row} {e1 e2 : Nat} (hd : Desc R2) {row more : List Nat} (h : Pre R1 R2 e1 e2 (row ++ more)) : Pre R1 R2 e1 e2 row := by
  have : ∀ (n : Nat) (row more : List Nat), more.length = n → Pre R1 R2 e1 e2 (row ++ more) → Pre R1 R2 e1 e2 row := by
    intro n
    induction n with
    | zero => intro row more hl h; rw [List.eq_nil_of_length_eq_zero hl, List.append_nil] at h; exact h
    | succ n ih =>
      intro row more hl h
      match more, hl with
      | x :: more, hl =>
        rw [List.length_cons] at hl
        have := ih (row ++ [x]) more (by omega) (by rw [List.append_assoc]; exact h)
        exact ((Pre.snoc hd).mp this).1
  exact this _ row more rfl h
/-- a whole one leads -/
theorem pre_leads {R1 R2 : List Row} {e1 e2 : Nat} {row : List Nat} (h : Pre R1 R2 e1 e2 row) (hl : row.length = R2.length) (he : e2 < R2.length) : Leads R1 R2 (fun i => row.getD i 0) ∧ row.getD e2 0 = e1 := by
  have hget : ∀ i, i < R2.length → row[i]? = some (row.getD i 0) := fun i hi => by
    rw [List.getD_eq_getElem?_getD, List.getElem?_eq_getElem (by omega)]; rfl
  refine ⟨fun i r hr => ?_, (h.2 e2 _ (hget e2 he)).2 rfl⟩
  have hi := (List.getElem?_eq_some_iff.mp hr).1
  obtain ⟨⟨r', q, h1, h2, h3, h4, h5⟩, _⟩ := h.2 i _ (hget i hi)
  rw [hr] at h1
  cases h1
  exact ⟨q, h2, h3, h4, h5⟩
theorem leads_pre {R1 R2 : List Row} {e1 e2 : Nat} {h : Nat → Nat} (hL : Leads R1 R2 h) (he : h e2 = e1) (hd : Desc R2) : Pre R1 R2 e1 e2 ((List.range R2.length).map h) := by
  refine ⟨by rw [List.length_map, List.length_range]; exact Nat.le_refl _, fun i x hx => ?_⟩
  rw [List.getElem?_map] at hx
  obtain ⟨j, hj, rfl⟩ := Option.map_eq_some_iff.mp hx
  obtain ⟨hj1, hj2⟩ := List.getElem?_eq_some_iff.mp hj
  rw [List.getElem_range] at hj2
  subst hj2
  rw [List.length_range] at hj1
  obtain ⟨r, hr⟩ : ∃ r, R2[i]? = some r := ⟨_, List.getElem?_eq_getElem hj1⟩
  obtain ⟨q, h1, h2, h3, h4⟩ := hL i r hr
  have hg : ∀ a, r.ahead = some a → ((List.range R2.length).map h).getD a 0 = h a := fun a ha => by
    have := hd i r hr a ha
    rw [List.getD_eq_getElem?_getD, List.getElem?_map, List.getElem?_eq_getElem (by rw [List.length_range]; omega), List.getElem_range]
    rfl
  refine ⟨⟨r, q, hr, h1, h2, fun hd => ?_, fun hd j hj => ?_⟩, fun e => by rw [e]; exact he⟩
  · obtain ⟨a, b⟩ := h3 hd
    refine ⟨a, b.trans ?_⟩
    cases ha : r.ahead with
    | none => rfl
    | some k => rw [Option.map_some, Option.map_some, hg k ha]
  · rw [hg j hj]
    exact h4 hd j hj
/-! the plain tree, step by step -/
theorem treeSs_plain {p : Pt} (h : 1 ≤ p.length) : treeSs p = [plainT p] := by
  match p, h with
  | s :: r, _ => rfl
theorem treeTs_map {L K : Nat} : ∀ {ts : List Pt}, (∀ q ∈ ts, goodP L K q) → treeTs ts = ts.map plainT
  | [], _ => by rw [treeTs]; rfl
  | p :: ps, h => by rw [treeTs, treeSs_plain (goodP_iff.mp (h p (.head _))).1, treeTs_map fun q hq => h q (.tail _ hq)]; rfl
theorem len_numTs {L K : Nat} : ∀ {ts : List Pt}, (∀ q ∈ ts, goodP L K q) → ts.length ≤ numTs ts
  | [], _ => Nat.zero_le _
  | p :: ps, h => by
    have h1 := numP_pos (goodP_iff.mp (h p (.head _))).1
    have h2 := len_numTs fun q hq => h q (.tail _ hq)
    rw [List.length_cons, numTs]; omega
theorem plainT_one (d : Bool) (l : Str) (ts : List Pt) : plainT [.mk d l ts] = wrapT d (.mk l (treeTs ts)) := by
  show treeSt (.mk d l ts) (treeSs []) = _
  rw [treeSt, treeSs, List.append_nil]
theorem plainT_more (d : Bool) (l : Str) (ts : List Pt) (s : St) (r : Pt) : plainT (.mk d l ts :: s :: r) = wrapT d (.mk l (treeTs ts ++ [plainT (s :: r)])) := by
  show treeSt (.mk d l ts) (treeSs (s :: r)) = _
  rw [treeSt]; rfl
theorem nodeSs_one (d : Bool) (l : Str) (ts : List Pt) : nodeSs [.mk d l ts] = downN d [] := rfl
theorem nodeSs_more (d : Bool) (l : Str) (ts : List Pt) (s : St) (r : Pt) : nodeSs (.mk d l ts :: s :: r) = downN d [] ++ (treeTs ts).length :: nodeSs (s :: r) := rfl
theorem downN_len (d : Bool) : (downN d []).length ≤ 1 := by cases d <;> decide
theorem nodeSs_len : ∀ p : Pt, (nodeSs p).length ≤ 2 * numP p
  | [] => Nat.zero_le _
  | [.mk d l ts] => by
    have := downN_len d
    have := num_pos (.mk d l ts)
    rw [nodeSs_one, numP]; omega
  | .mk d l ts :: s :: r => by
    have := downN_len d
    have := nodeSs_len (s :: r)
    have := num_pos (.mk d l ts)
    rw [nodeSs_more, List.length_append, List.length_cons, numP]; omega
/-- the size of the plain tree -/
theorem wrapT_size (d : Bool) (t : Tr) : (wrapT d t).size ≤ t.size + 1 := by
  cases d
  · exact Nat.le_succ _
  · show (Tr.mk "d" [t]).size ≤ _
    rw [Tr.size, Tr.sizes, Tr.sizes]; omega
mutual
theorem treeSt_size : ∀ (s : St) (more : List Tr), (treeSt s more).size ≤ 2 * s.num + Tr.sizes more
  | .mk d l ts, more => by
    have h1 := wrapT_size d (.mk l (treeTs ts ++ more))
    have h2 := treeTs_size ts
    rw [treeSt, St.num]
    rw [Tr.size, sizes_app] at h1
    omega
theorem treeTs_size : ∀ ts : List Pt, Tr.sizes (treeTs ts) ≤ 2 * numTs ts
  | [] => by rw [treeTs, Tr.sizes]; omega
  | p :: ps => by
    have h1 := treeSs_size p
    have h2 := treeTs_size ps
    rw [treeTs, sizes_app, numTs]; omega
theorem treeSs_size : ∀ p : Pt, Tr.sizes (treeSs p) ≤ 2 * numP p
  | [] => by rw [treeSs, Tr.sizes]; omega
  | s :: r => by
    have h1 := treeSs_size r
    have h2 := treeSt_size s (treeSs r)
    rw [treeSs, Tr.sizes, Tr.sizes, numP]; omega
end
theorem plainT_size {p : Pt} (h : 1 ≤ p.length) : (plainT p).size ≤ 2 * numP p := by
  have := treeSs_size p
  rw [treeSs_plain h, Tr.sizes, Tr.sizes] at this
  omega
mutual
theorem treeSt_ok {L K : Nat} : ∀ (s : St) (more : List Tr), s.good L K → (∀ t ∈ more, t.ok) → (treeSt s more).ok
  | .mk d l ts, more, h, hm => by
    obtain ⟨h1, h2, h3⟩ := good_iff.mp h
    have h1 : letS l := h1
    have hl : letT l := by rcases h1 with h | h | h <;> simp [letT, h]
    have hb : (Tr.mk l (treeTs ts ++ more)).ok := by
      rw [Tr.ok, oks_iff]
      refine ⟨hl, fun t ht => ?_⟩
      rcases List.mem_append.mp ht with ht | ht
      · exact treeTs_ok ts h3 t ht
      · exact hm t ht
    rw [treeSt]
    cases d with
    | false => exact hb
    | true =>
      show (Tr.mk "d" [_]).ok
      rw [Tr.ok, oks_iff]
      exact ⟨by simp [letT], fun t ht => by rw [List.mem_singleton.mp ht]; exact hb⟩
theorem treeTs_ok {L K : Nat} : ∀ ts : List Pt, (∀ q ∈ ts, goodP L K q) → ∀ t ∈ treeTs ts, t.ok
  | [], _, t, ht => by rw [treeTs] at ht; cases ht
  | p :: ps, h, t, ht => by
    rw [treeTs] at ht
    rcases List.mem_append.mp ht with ht | ht
    · exact treeSs_ok p (goodP_iff.mp (h p (.head _))).2.2 t ht
    · exact treeTs_ok ps (fun q hq => h q (.tail _ hq)) t ht
theorem treeSs_ok {L K : Nat} : ∀ p : Pt, (∀ s ∈ p, s.good L K) → ∀ t ∈ treeSs p, t.ok
  | [], _, t, ht => by rw [treeSs] at ht; cases ht
  | s :: r, h, t, ht => by
    rw [treeSs] at ht
    rw [List.mem_singleton.mp ht]
    exact treeSt_ok s _ (h s (.head _)) (treeSs_ok r fun q hq => h q (.tail _ hq))
end
theorem plainT_ok {L K : Nat} {p : Pt} (h : goodP L K p) : (plainT p).ok := by
  obtain ⟨h1, _, h3⟩ := goodP_iff.mp h
  exact treeSs_ok p h3 _ (by rw [treeSs_plain h1]; exact .head _)
theorem ix_row_0 (a b c : D) : ixD (.tuple [a, b, c]) (.int 0) = .ok a := rfl
theorem ix_row_1 (a b c : D) : ixD (.tuple [a, b, c]) (.int 1) = .ok b := rfl
theorem ix_row_2 (a b c : D) : ixD (.tuple [a, b, c]) (.int 2) = .ok c := rfl
/-! leadings put together -/
theorem back_trans {R : List Row} {i j k : Nat} (h1 : Back R i j) (h2 : Back R j k) : Back R i k := by
  induction h1 with
  | one h ha => exact .more h ha h2
  | more h ha _ ih => exact .more h ha (ih h2)
theorem leads_back {R1 R2 : List Row} {h : Nat → Nat} (hL : Leads R1 R2 h) {i j : Nat} (hb : Back R2 i j) : Back R1 (h i) (h j) := by
  have one : ∀ {i j : Nat} {r : Row}, R2[i]? = some r → r.ahead = some j → Back R1 (h i) (h j) := by
    intro i j r hr ha
    obtain ⟨q, h1, _, h3, h4⟩ := hL i r hr
    cases hd : r.deep with
    | false =>
      obtain ⟨_, b⟩ := h3 hd
      rw [ha] at b
      exact .one h1 b
    | true => exact h4 hd j ha
  induction hb with
  | one h ha => exact one h ha
  | more h ha _ ih => exact back_trans (one h ha) ih
theorem leads_comp {R1 R2 R3 : List Row} {h h' : Nat → Nat} (hL : Leads R1 R2 h) (hL' : Leads R2 R3 h') : Leads R1 R3 (fun i => h (h' i)) := by
  intro i r hr
  obtain ⟨q, h1, h2, h3, h4⟩ := hL' i r hr
  obtain ⟨w, k1, k2, k3, k4⟩ := hL (h' i) q h1
  refine ⟨w, k1, k2.trans h2, fun hd => ?_, fun hd j hj => leads_back hL (h4 hd j hj)⟩
  obtain ⟨a, b⟩ := h3 hd
  obtain ⟨c, d⟩ := k3 a
  exact ⟨c, by rw [d, b, Option.map_map]; rfl⟩
theorem range_getD {n : Nat} {f : Nat → Nat} : ∀ i, i < n → ((List.range n).map f).getD i 0 = f i := fun i hi => by
  rw [List.getD_eq_getElem?_getD, List.getElem?_map, List.getElem?_eq_getElem (by rw [List.length_range]; exact hi), List.getElem_range]
  rfl
/-- two told ones, put together -/
theorem pre_comp {R1 R2 R3 : List Row} {e1 e2 e3 : Nat} (hd3 : Desc R3) {a b : List Nat} (ha : Pre R1 R2 e1 e2 a) (hb : Pre R2 R3 e2 e3 b) (la : a.length = R2.length) (lb : b.length = R3.length) (h2 : e2 < R2.length) (h3 : e3 < R3.length) : Pre R1 R3 e1 e3 (b.map fun n => a.getD n 0) := by
  obtain ⟨a1, a2⟩ := pre_leads ha la h2
  obtain ⟨b1, b2⟩ := pre_leads hb lb h3
  have e : (b.map fun n => a.getD n 0) = (List.range R3.length).map fun i => a.getD (b.getD i 0) 0 := by
    refine List.ext_getElem (by rw [List.length_map, List.length_map, List.length_range, lb]) fun i h1 h2 => ?_
    rw [List.length_map] at h1
    rw [List.getElem_map, List.getElem_map, List.getElem_range, List.getD_eq_getElem?_getD (l := b), List.getElem?_eq_getElem h1]
    rfl
  rw [e]
  exact leads_pre (leads_comp a1 b1) (by show a.getD (b.getD e3 0) 0 = e1; rw [b2]; exact a2) hd3
theorem pre_take {R1 R2 : List Row} {e1 e2 : Nat} (hd : Desc R2) {row : List Nat} (h : Pre R1 R2 e1 e2 row) {i x : Nat} (hi : row[i]? = some x) : Fits R1 R2 (row.take i) i x := by
  refine (fits_ext hd fun j hj => ?_).mp (h.2 i x hi).1
  rw [List.getD_eq_getElem?_getD, List.getD_eq_getElem?_getD, List.getElem?_take, if_pos hj]
end Pu
/-! a plain look at data: trees -/
namespace Pu
open PySem L2
def lettB (s : Str) : Bool := s == "a" || s == "b" || s == "c" || s == "d"
def lettD : D → Bool
  | .str s => lettB s
  | _ => false
def trB : Nat → D → Bool
  | 0, _ => false
  | n + 1, .tuple [a, .tuple ks] => lettD a && ks.all (trB n)
  | _ + 1, _ => false
theorem lettB_iff {s : Str} : lettB s = true ↔ letT s := by
  unfold lettB letT
  simp [Bool.or_eq_true, or_assoc]
theorem str_one {s : Str} (h : s.length = 1) : ∃ c, s = ⟨#[c]⟩ := by
  obtain ⟨a⟩ := s
  have h : a.size = 1 := h
  obtain ⟨l⟩ := a
  match l, h with
  | [c], _ => exact ⟨c, rfl⟩
theorem letT_len {s : Str} (h : letT s) : s.length = 1 := by
  rcases h with h | h | h | h <;> subst h <;> decide +kernel
theorem s_abcd : (("abcd" : Str)) = ⟨#[97, 98, 99, 100]⟩ := by decide +kernel
theorem in_abcd (c : Nat) : cmpD .isin (.str ⟨#[c]⟩) (.str "abcd") = .ok (lettB ⟨#[c]⟩) := by
  rw [in_str1, s_abcd]
  unfold lettB
  rw [s_a, s_b, s_c, s_d]
  simp [str_beq, Bool.or_assoc]
theorem lett_no {s : Str} (h : ¬ s.length = 1) : lettB s = false := by
  cases e : lettB s with
  | false => rfl
  | true => exact absurd (letT_len (lettB_iff.mp e)) h
theorem trB_tr : ∀ (m : Nat) (d : D), trB m d = true → ∃ t : Tr, d = t.enc ∧ t.ok
  | 0, d, h => by rw [trB] at h; cases h
  | m + 1, d, h => by
    unfold trB at h
    split at h
    · cases h
    · rename_i a ks e
      cases e
      rw [Bool.and_eq_true, List.all_eq_true] at h
      obtain ⟨h1, h2⟩ := h
      obtain ⟨l, rfl, hl⟩ : ∃ l, a = .str l ∧ letT l := by
        cases a with
        | str s => exact ⟨s, rfl, lettB_iff.mp h1⟩
        | _ => cases h1
      have : ∀ xs : List D, (∀ x ∈ xs, trB m x = true) → ∃ ts : List Tr, xs = ts.map Tr.enc ∧ ∀ t ∈ ts, t.ok := by
        intro xs
        induction xs with
        | nil => intro _; exact ⟨[], rfl, fun t ht => nomatch ht⟩
        | cons x xs ih =>
          intro hx
          obtain ⟨ts, e, ho⟩ := ih fun y hy => hx y (.tail _ hy)
          obtain ⟨t, e2, ho2⟩ := trB_tr m x (hx x (.head _))
          exact ⟨t :: ts, by rw [e, e2]; rfl, fun u hu => by
            cases hu with
            | head => exact ho2
            | tail _ hu => exact ho u hu⟩
      obtain ⟨ts, e, ho⟩ := this ks h2
      exact ⟨.mk l ts, by rw [Tr.enc, encs_map, e], by rw [Tr.ok, oks_iff]; exact ⟨hl, ho⟩⟩
    · cases h
theorem tr_trB : ∀ (m : Nat) (t : Tr), t.ok → t.size ≤ m → trB m t.enc = true
  | 0, t, _, h => by have := size_pos t; omega
  | m + 1, .mk l ks, ho, h => by
    rw [Tr.ok, oks_iff] at ho
    rw [Tr.size] at h
    rw [Tr.enc, encs_map]
    show (lettB l && (ks.map Tr.enc).all (trB m)) = true
    rw [Bool.and_eq_true, List.all_eq_true]
    refine ⟨lettB_iff.mpr ho.1, fun x hx => ?_⟩
    obtain ⟨k, hk, rfl⟩ := List.mem_map.mp hx
    exact tr_trB m k (ho.2 k hk) (by have := size_mem hk; omega)
theorem tr_wf : ∀ (n : Nat) (t : Tr), t.ok → t.size ≤ n → n ≤ 900 → Wf (2 * n + 1) t.enc
  | 0, t, _, h, _ => by have := size_pos t; omega
  | n + 1, .mk l ks, ho, h, h9 => by
    rw [Tr.ok, oks_iff] at ho
    rw [Tr.size] at h
    rw [Tr.enc, encs_map]
    refine ⟨by show 2 ≤ 1000; omega, fun x hx => ?_⟩
    rcases List.mem_cons.mp hx with rfl | hx
    · show l.length ≤ 1000
      rw [letT_len ho.1]; decide
    · rw [List.mem_singleton.mp hx]
      refine ⟨by rw [List.length_map]; have := len_sizes ks; omega, fun y hy => ?_⟩
      obtain ⟨k, hk, rfl⟩ := List.mem_map.mp hy
      exact tr_wf n k (ho.2 k hk) (by have := size_mem hk; omega) (by omega)
end Pu
/-! paths put together, and what they find -/
namespace Pu
open PySem L2
/-! paths are alike -/
theorem alike_paths : ∀ a b : Pt, PySem.W.alike (encP a) (encP b) = true := by
  have h : ∀ (n : Nat) (a b : Pt), numP a ≤ n → PySem.W.alike (encP a) (encP b) = true := by
    intro n
    induction n with
    | zero =>
      intro a b h
      cases a with
      | nil =>
        unfold encP
        rw [encSs]
        cases encSs b <;> simp [PySem.W.alike, PySem.W.alikeAll]
      | cons s r => have := num_pos s; rw [numP] at h; omega
    | succ n ih =>
      have hts : ∀ (xs ys : List Pt), numTs xs ≤ n → PySem.W.alikeAll (encTs xs) (encTs ys) = true := by
        intro xs
        induction xs with
        | nil => intro ys _; rw [encTs]; cases encTs ys <;> simp [PySem.W.alikeAll]
        | cons x xs ihx =>
          intro ys hx
          rw [numTs] at hx
          cases ys with
          | nil => rw [encTs, encTs]; simp [PySem.W.alikeAll]
          | cons y ys =>
            rw [encTs, encTs, PySem.W.alikeAll, ihx ys (by omega)]
            have := ih x y (by omega)
            unfold encP at this
            rw [this]; rfl
      have hss : ∀ (xs ys : Pt), numP xs ≤ n + 1 → PySem.W.alikeAll (encSs xs) (encSs ys) = true := by
        intro xs
        induction xs with
        | nil => intro ys _; rw [encSs]; cases encSs ys <;> simp [PySem.W.alikeAll]
        | cons x xs ihx =>
          intro ys hx
          rw [numP] at hx
          cases ys with
          | nil => rw [encSs, encSs]; simp [PySem.W.alikeAll]
          | cons y ys =>
            rw [encSs, encSs, PySem.W.alikeAll, ihx ys (by omega)]
            obtain ⟨d, l, ts⟩ := x
            obtain ⟨d', l', ts'⟩ := y
            rw [St.num] at hx
            rw [St.enc, St.enc]
            simp [PySem.W.alike, PySem.W.alikeAll, hts ts ts' (by omega)]
      intro a b h
      unfold encP
      rw [PySem.W.alike]
      exact hss a b h
  exact fun a b => h (numP a) a b (Nat.le_refl _)
theorem encsP : Encs encP where
  al := alike_paths
  pl := pd_encP
  inj _ _ := encP_inj
/-! the order of tests, their number, do not matter -/
theorem fit_tests {d d' : Bool} {l : Str} {ts ts' : List Pt} (h : ∀ q, q ∈ ts ↔ q ∈ ts') (y : Node × Tr) : (St.mk d l ts).fit y = (St.mk d' l ts').fit y := by
  rw [fits_eq, fits_eq]
  congr 1
  rw [Bool.eq_iff_iff, List.all_eq_true, List.all_eq_true]
  exact ⟨fun a q hq => a q ((h q).mpr hq), fun a q hq => a q ((h q).mp hq)⟩
/-! ways behind one another -/
theorem waysK_app : ∀ (p q : Pt) (kids : List (Node × Tr)) (w : Way), w ∈ waysK (p ++ q) kids ↔ ∃ u v, w = u ++ v ∧ u ∈ waysK p kids ∧ v ∈ waysK q (kidsOf kids u)
  | [], q, kids, w => by
    rw [List.nil_append, waysK]
    constructor
    · intro h; exact ⟨[], w, rfl, .head _, h⟩
    · rintro ⟨u, v, rfl, hu, hv⟩
      rw [List.mem_singleton.mp hu] at hv ⊢
      exact hv
  | s :: p, q, kids, w => by
    rw [List.cons_append, waysK, waysK, List.mem_flatMap]
    constructor
    · rintro ⟨y, hy, h⟩
      obtain ⟨z, hz, rfl⟩ := List.mem_map.mp h
      obtain ⟨u, v, rfl, hu, hv⟩ := (waysK_app p q _ z).mp hz
      refine ⟨y :: u, v, rfl, List.mem_flatMap.mpr ⟨y, hy, List.mem_map.mpr ⟨u, hu, rfl⟩⟩, ?_⟩
      rw [kidsOf_cons]; exact hv
    · rintro ⟨u, v, rfl, hu, hv⟩
      obtain ⟨y, hy, h⟩ := List.mem_flatMap.mp hu
      obtain ⟨z, hz, rfl⟩ := List.mem_map.mp h
      rw [kidsOf_cons] at hv
      exact ⟨y, hy, List.mem_map.mpr ⟨z ++ v, (waysK_app p q _ _).mpr ⟨z, v, rfl, hz, hv⟩, rfl⟩⟩
where
  kidsOf_cons {kids : List (Node × Tr)} {y : Node × Tr} {u : Way} : kidsOf kids (y :: u) = kidsOf (kidsAt y) u := by
    cases u with
    | nil => rfl
    | cons z u =>
      unfold kidsOf
      rw [List.getLast?_cons_cons]
      cases h : (z :: u).getLast? with
      | none => simp at h
      | some a => rfl
theorem mem_fk {p : Pt} {kids : List (Node × Tr)} {n : Node} : n ∈ findsK p kids ↔ ∃ w ∈ waysK p kids, lastN w = n := by
  unfold findsK
  rw [mem_setN, List.mem_map]
/-- from a way's end -/
theorem last_kids {w : Way} (h : w ≠ []) : ∃ y, w.getLast? = some y ∧ lastN w = y.1 := by
  rcases List.eq_nil_or_concat w with rfl | ⟨u, y, rfl⟩
  · exact absurd rfl h
  · exact ⟨y, by simp, by unfold lastN; simp⟩
theorem lastN_app {u v : Way} (h : v ≠ []) : lastN (u ++ v) = lastN v := by
  obtain ⟨y, h1, h2⟩ := last_kids h
  unfold lastN
  rw [List.getLast?_append, h1]
  rfl
/-- behind: what the second finds from the finds of the first -/
theorem finds_app {t : Tr} {p q : Pt} (hp : 1 ≤ p.length) (hq : 1 ≤ q.length) {n : Node} : n ∈ findsT (p ++ q) t ↔ ∃ m ∈ findsT p t, n ∈ findsK q (kidsB t (some m)) := by
  unfold findsT
  rw [mem_fk]
  have hne : ∀ {r : Pt} {kids : List (Node × Tr)} {w : Way}, 1 ≤ r.length → w ∈ waysK r kids → w ≠ [] := by
    rintro r kids w h1 h2 rfl
    have := waysK_len r kids [] h2
    rw [List.length_nil] at this
    omega
  have hko : ∀ {u : Way}, u ∈ waysK p [([], t)] → kidsOf [([], t)] u = kidsB t (some (lastN u)) := by
    intro u hu
    obtain ⟨y, h1, h2⟩ := last_kids (hne hp hu)
    have hy : t.sub y.1 = some y.2 := waysK_sub p _ (sub_one t) u hu y (List.mem_of_getLast? h1)
    rw [h2, kidsB_some hy]
    unfold kidsOf
    rw [h1]
  constructor
  · rintro ⟨w, hw, rfl⟩
    obtain ⟨u, v, rfl, hu, hv⟩ := (waysK_app p q _ w).mp hw
    refine ⟨lastN u, mem_fk.mpr ⟨u, hu, rfl⟩, mem_fk.mpr ⟨v, ?_, (lastN_app (hne hq hv)).symm⟩⟩
    rw [← hko hu]; exact hv
  · rintro ⟨m, hm, hn⟩
    obtain ⟨u, hu, rfl⟩ := mem_fk.mp hm
    obtain ⟨v, hv, rfl⟩ := mem_fk.mp hn
    rw [← hko hu] at hv
    exact ⟨u ++ v, (waysK_app p q _ _).mpr ⟨u, v, rfl, hu, hv⟩, lastN_app (hne hq hv)⟩
theorem has_finds {p : Pt} {kids : List (Node × Tr)} : hasB p kids = true ↔ ∃ n, n ∈ findsK p kids := by
  rw [hasB_ways]
  constructor
  · intro h
    cases hw : waysK p kids with
    | nil => rw [hw] at h; cases h
    | cons a b => exact ⟨lastN a, mem_fk.mpr ⟨a, by rw [hw]; exact .head _, rfl⟩⟩
  · rintro ⟨n, hn⟩
    obtain ⟨w, hw, _⟩ := mem_fk.mp hn
    cases hz : waysK p kids with
    | nil => rw [hz] at hw; cases hw
    | cons a b => rfl
/-! from a node: in the trees below it -/
def preY (m : Node) (y : Node × Tr) : Node × Tr := (m ++ y.1, y.2)
theorem kidsAt_pre (m : Node) (y : Node × Tr) : kidsAt (preY m y) = (kidsAt y).map (preY m) := by
  obtain ⟨n, l, ks⟩ := y
  have : ∀ (ks : List Tr) (i : Nat), kidsFrom (m ++ n) i ks = (kidsFrom n i ks).map (preY m) := by
    intro ks
    induction ks with
    | nil => intro i; rfl
    | cons k ks ih =>
      intro i
      rw [kidsFrom, kidsFrom, List.map_cons, ih (i + 1)]
      show (m ++ n ++ [i], k) :: _ = (m ++ (n ++ [i]), k) :: _
      rw [List.append_assoc]
  exact this ks 0
theorem cands_pre (m : Node) (d : Bool) (kids : List (Node × Tr)) : cands d (kids.map (preY m)) = (cands d kids).map (preY m) := by
  unfold cands
  cases d with
  | false => rfl
  | true =>
    simp only [if_true]
    rw [List.flatMap_map, List.map_flatMap]
    refine congrArg (fun f => List.flatMap f kids) (funext fun y => ?_)
    exact allT_pre y.2 m y.1
theorem hasB_pre (m : Node) : ∀ (p : Pt) (kids : List (Node × Tr)), hasB p (kids.map (preY m)) = hasB p kids := by
  have main : ∀ (n : Nat) (p : Pt) (kids : List (Node × Tr)), numP p ≤ n → hasB p (kids.map (preY m)) = hasB p kids := by
    intro n
    induction n with
    | zero =>
      intro p kids h
      cases p with
      | nil => rw [hasB, hasB]
      | cons s r => have := num_pos s; rw [numP] at h; omega
    | succ n ih =>
      intro p kids h
      cases p with
      | nil => rw [hasB, hasB]
      | cons s r =>
        obtain ⟨d, l, ts⟩ := s
        rw [numP, St.num] at h
        rw [hasB, hasB]
        show (cands d _).any _ = (cands d _).any _
        rw [cands_pre, List.any_map]
        refine congrArg (fun f => List.any (cands d kids) f) (funext fun y => ?_)
        show ((St.mk d l ts).fit (preY m y) && hasB r (kidsAt (preY m y))) = _
        rw [kidsAt_pre, ih r _ (by omega), fits_eq, fits_eq]
        congr 2
        have : ∀ q ∈ ts, hasB q (kidsAt (preY m y)) = hasB q (kidsAt y) := fun q hq => by
          rw [kidsAt_pre, ih q _ (by have := numTs_mem hq; omega)]
        rw [Bool.eq_iff_iff, List.all_eq_true, List.all_eq_true]
        exact ⟨fun a q hq => by rw [← this q hq]; exact a q hq, fun a q hq => by rw [this q hq]; exact a q hq⟩
  exact fun p kids => main (numP p) p kids (Nat.le_refl _)
theorem fit_pre (m : Node) (s : St) (y : Node × Tr) : s.fit (preY m y) = s.fit y := by
  obtain ⟨d, l, ts⟩ := s
  rw [fits_eq, fits_eq]
  congr 1
  rw [Bool.eq_iff_iff, List.all_eq_true, List.all_eq_true]
  exact ⟨fun a q hq => by have := a q hq; rw [kidsAt_pre, hasB_pre] at this; exact this, fun a q hq => by rw [kidsAt_pre, hasB_pre]; exact a q hq⟩
theorem waysK_pre (m : Node) : ∀ (p : Pt) (kids : List (Node × Tr)), waysK p (kids.map (preY m)) = (waysK p kids).map fun w => w.map (preY m)
  | [], kids => rfl
  | s :: r, kids => by
    rw [waysK, waysK, cands_pre, List.filter_map, List.flatMap_map, List.map_flatMap]
    have e : (s.fit ∘ preY m) = s.fit := funext fun y => fit_pre m s y
    rw [e]
    refine congrArg (fun f => List.flatMap f ((cands s.deep kids).filter s.fit)) (funext fun y => ?_)
    rw [kidsAt_pre, waysK_pre m r, List.map_map, List.map_map]
    rfl
theorem lastN_pre (m : Node) {w : Way} (h : w ≠ []) : lastN (w.map (preY m)) = m ++ lastN w := by
  obtain ⟨y, h1, h2⟩ := last_kids h
  rw [h2]
  unfold lastN
  rw [List.getLast?_map, h1]
  rfl
/-- from some kids: from one of them -/
theorem finds_kids {p : Pt} (hp : 1 ≤ p.length) {kids : List (Node × Tr)} {n : Node} : n ∈ findsK p kids ↔ ∃ y ∈ kids, ∃ x ∈ findsT p y.2, n = y.1 ++ x := by
  have one : ∀ y : Node × Tr, n ∈ findsK p [y] ↔ ∃ x ∈ findsT p y.2, n = y.1 ++ x := by
    intro y
    have e : [y] = [(([] : Node), y.2)].map (preY y.1) := by
      show [y] = [(y.1 ++ [], y.2)]
      rw [List.append_nil]
    rw [e, mem_fk, waysK_pre]
    constructor
    · rintro ⟨w, hw, rfl⟩
      obtain ⟨v, hv, rfl⟩ := List.mem_map.mp hw
      have hne : v ≠ [] := by
        rintro rfl
        have := waysK_len p _ [] hv
        rw [List.length_nil] at this
        omega
      exact ⟨lastN v, mem_fk.mpr ⟨v, hv, rfl⟩, lastN_pre _ hne⟩
    · rintro ⟨x, hx, rfl⟩
      obtain ⟨v, hv, rfl⟩ := mem_fk.mp hx
      have hne : v ≠ [] := by
        rintro rfl
        have := waysK_len p _ [] hv
        rw [List.length_nil] at this
        omega
      exact ⟨_, List.mem_map.mpr ⟨v, hv, rfl⟩, lastN_pre _ hne⟩
  match p, hp with
  | s :: r, _ =>
    have hc : ∀ z, z ∈ cands s.deep kids ↔ ∃ y ∈ kids, z ∈ cands s.deep [y] := by
      intro z
      unfold cands
      cases s.deep with
      | false => simp
      | true => simp
    constructor
    · intro h
      obtain ⟨w, hw, rfl⟩ := mem_fk.mp h
      rw [waysK] at hw
      obtain ⟨z, hz, hw⟩ := List.mem_flatMap.mp hw
      obtain ⟨hz1, hz2⟩ := List.mem_filter.mp hz
      obtain ⟨y, hy, hzy⟩ := (hc z).mp hz1
      exact ⟨y, hy, (one2 s r y).mp (mem_fk.mpr ⟨w, by rw [waysK]; exact List.mem_flatMap.mpr ⟨z, List.mem_filter.mpr ⟨hzy, hz2⟩, hw⟩, rfl⟩)⟩
    · rintro ⟨y, hy, h⟩
      obtain ⟨w, hw, e⟩ := mem_fk.mp ((one2 s r y).mpr h)
      rw [waysK] at hw
      obtain ⟨z, hz, hw⟩ := List.mem_flatMap.mp hw
      obtain ⟨hz1, hz2⟩ := List.mem_filter.mp hz
      exact mem_fk.mpr ⟨w, by rw [waysK]; exact List.mem_flatMap.mpr ⟨z, List.mem_filter.mpr ⟨(hc z).mpr ⟨y, hy, hz1⟩, hz2⟩, hw⟩, e⟩
where
  one2 (s : St) (r : Pt) (y : Node × Tr) {n : Node} : n ∈ findsK (s :: r) [y] ↔ ∃ x ∈ findsT (s :: r) y.2, n = y.1 ++ x := by
    have e : [y] = [(([] : Node), y.2)].map (preY y.1) := by
      show [y] = [(y.1 ++ [], y.2)]
      rw [List.append_nil]
    rw [e, mem_fk, waysK_pre]
    constructor
    · rintro ⟨w, hw, rfl⟩
      obtain ⟨v, hv, rfl⟩ := List.mem_map.mp hw
      have hne : v ≠ [] := by
        rintro rfl
        have := waysK_len (s :: r) _ [] hv
        rw [List.length_nil, List.length_cons] at this
        omega
      exact ⟨lastN v, mem_fk.mpr ⟨v, hv, rfl⟩, lastN_pre _ hne⟩
    · rintro ⟨x, hx, rfl⟩
      obtain ⟨v, hv, rfl⟩ := mem_fk.mp hx
      have hne : v ≠ [] := by
        rintro rfl
        have := waysK_len (s :: r) _ [] hv
        rw [List.length_nil, List.length_cons] at this
        omega
      exact ⟨_, List.mem_map.mpr ⟨v, hv, rfl⟩, lastN_pre _ hne⟩
theorem within_kids {p q : Pt} (hp : 1 ≤ p.length) (hq : 1 ≤ q.length) (h : Within p q) {kids : List (Node × Tr)} {n : Node} (hn : n ∈ findsK p kids) : n ∈ findsK q kids := by
  obtain ⟨y, hy, x, hx, e⟩ := (finds_kids hp).mp hn
  exact (finds_kids hq).mpr ⟨y, hy, x, h _ _ hx, e⟩
theorem within_behind {p q r : Pt} (hp : 1 ≤ p.length) (hq : 1 ≤ q.length) (hr : 1 ≤ r.length) (h : Within p q) : Within (p ++ r) (q ++ r) := fun t n hn => by
  obtain ⟨m, hm, hx⟩ := (finds_app hp hr).mp hn
  exact (finds_app hq hr).mpr ⟨m, h t m hm, hx⟩
theorem within_ahead {p q r : Pt} (hp : 1 ≤ p.length) (hq : 1 ≤ q.length) (hr : 1 ≤ r.length) (h : Within p q) : Within (r ++ p) (r ++ q) := fun t n hn => by
  obtain ⟨m, hm, hx⟩ := (finds_app hr hp).mp hn
  exact (finds_app hr hq).mpr ⟨m, hm, within_kids hp hq h hx⟩
/-! a test more -/
/-- the last step with other tests -/
def withT (p : Pt) (o : Pt) : Pt := match p.getLast? with
  | none => []
  | some (.mk d l ts) => p.dropLast ++ [.mk d l (srt encP (ts ++ [o]))]
theorem waysK_snoc {p : Pt} {s : St} {kids : List (Node × Tr)} {w : Way} : w ∈ waysK (p ++ [s]) kids ↔ ∃ u y, w = u ++ [y] ∧ u ∈ waysK p kids ∧ y ∈ cands s.deep (kidsOf kids u) ∧ s.fit y = true := by
  rw [waysK_app]
  constructor
  · rintro ⟨u, v, rfl, hu, hv⟩
    rw [waysK] at hv
    obtain ⟨y, hy, h⟩ := List.mem_flatMap.mp hv
    obtain ⟨z, hz, rfl⟩ := List.mem_map.mp h
    rw [waysK] at hz
    rw [List.mem_singleton.mp hz]
    obtain ⟨h1, h2⟩ := List.mem_filter.mp hy
    exact ⟨u, y, rfl, hu, h1, h2⟩
  · rintro ⟨u, y, rfl, hu, h1, h2⟩
    refine ⟨u, [y], rfl, hu, ?_⟩
    rw [waysK]
    exact List.mem_flatMap.mpr ⟨y, List.mem_filter.mpr ⟨h1, h2⟩, List.mem_map.mpr ⟨[], by rw [waysK]; exact .head _, rfl⟩⟩
theorem finds_withT {t : Tr} {p o : Pt} (hp : 1 ≤ p.length) {n : Node} : n ∈ findsT (withT p o) t ↔ n ∈ findsT p t ∧ hasB o (kidsB t (some n)) = true := by
  rcases List.eq_nil_or_concat p with rfl | ⟨i, s, rfl⟩
  · exact absurd hp (by decide)
  · obtain ⟨d, l, ts⟩ := s
    rw [List.concat_eq_append]
    have e : withT (i ++ [.mk d l ts]) o = i ++ [.mk d l (srt encP (ts ++ [o]))] := by
      unfold withT
      simp
    rw [e]
    have hfit : ∀ y, (St.mk d l (srt encP (ts ++ [o]))).fit y = ((St.mk d l ts).fit y && hasB o (kidsAt y)) := by
      intro y
      rw [fit_tests (d := d) (d' := d) (ts' := ts ++ [o]) (fun q => mem_srt) y, fits_eq, fits_eq, List.all_append, List.all_cons, List.all_nil, Bool.and_true, Bool.and_assoc]
    unfold findsT
    rw [mem_fk, mem_fk]
    have hk : ∀ {u : Way} {y : Node × Tr}, u ++ [y] ∈ waysK (i ++ [.mk d l ts]) [([], t)] → kidsB t (some y.1) = kidsAt y := fun h =>
      kidsB_some (waysK_sub _ _ (sub_one t) _ h _ (by simp))
    constructor
    · rintro ⟨w, hw, rfl⟩
      obtain ⟨u, y, rfl, hu, h1, h2⟩ := waysK_snoc.mp hw
      rw [hfit, Bool.and_eq_true] at h2
      have hw' : u ++ [y] ∈ waysK (i ++ [.mk d l ts]) [([], t)] := waysK_snoc.mpr ⟨u, y, rfl, hu, h1, h2.1⟩
      refine ⟨⟨_, hw', rfl⟩, ?_⟩
      rw [lastN_app (by simp)]
      show hasB o (kidsB t (some y.1)) = true
      rw [hk hw']; exact h2.2
    · rintro ⟨⟨w, hw, rfl⟩, ho⟩
      obtain ⟨u, y, rfl, hu, h1, h2⟩ := waysK_snoc.mp hw
      rw [lastN_app (by simp)] at ho
      have ho : hasB o (kidsB t (some y.1)) = true := ho
      rw [hk hw] at ho
      exact ⟨u ++ [y], waysK_snoc.mpr ⟨u, y, rfl, hu, h1, by rw [hfit, h2, ho]; rfl⟩, rfl⟩
theorem withT_len {p o : Pt} (hp : 1 ≤ p.length) : (withT p o).length = p.length := by
  rcases List.eq_nil_or_concat p with rfl | ⟨i, s, rfl⟩
  · exact absurd hp (by decide)
  · obtain ⟨d, l, ts⟩ := s
    unfold withT
    simp
theorem numTs_perm {a b : List Pt} (h : a.Perm b) : numTs a = numTs b := by
  induction h with
  | nil => rfl
  | cons x _ ih => rw [numTs, numTs, ih]
  | swap x y l => rw [numTs, numTs, numTs, numTs]; omega
  | trans _ _ ih1 ih2 => rw [ih1, ih2]
theorem withT_good {L K : Nat} {p o : Pt} (hp : goodP L K p) (ho : goodP L K o) : goodP L (K + 1) (withT p o) ∧ numP (withT p o) = numP p + numP o := by
  obtain ⟨h1, h2, h3⟩ := goodP_iff.mp hp
  rcases List.eq_nil_or_concat p with rfl | ⟨i, s, rfl⟩
  · exact absurd h1 (by decide)
  · obtain ⟨d, l, ts⟩ := s
    have hm : ∀ q, goodP L K q → goodP L (K + 1) q := fun q h => goodP_mono (Nat.le_refl _) (Nat.le_succ _) q h
    have e : withT (i.concat (.mk d l ts)) o = i ++ [.mk d l (srt encP (ts ++ [o]))] := by
      unfold withT
      simp
    rw [e]
    rw [List.concat_eq_append] at h1 h2 h3 ⊢
    have hs := good_iff.mp (h3 _ (by simp : St.mk d l ts ∈ i ++ [St.mk d l ts]))
    refine ⟨goodP_iff.mpr ⟨by simp, by simpa using h2, fun s hs' => ?_⟩, ?_⟩
    · rcases List.mem_append.mp hs' with h | h
      · obtain ⟨a, b, c⟩ := good_iff.mp (h3 s (List.mem_append_left _ h))
        exact good_iff.mpr ⟨a, by omega, fun q hq => hm q (c q hq)⟩
      · rw [List.mem_singleton.mp h]
        refine good_iff.mpr ⟨hs.1, ?_, fun q hq => ?_⟩
        · show (srt encP (ts ++ [o])).length ≤ K + 1
          have : ts.length ≤ K := hs.2.1
          rw [srt_len, List.length_append, List.length_singleton]; omega
        · have hq : q ∈ srt encP (ts ++ [o]) := hq
          rcases List.mem_append.mp (mem_srt.mp hq) with h | h
          · exact hm q (hs.2.2 q h)
          · rw [List.mem_singleton.mp h]; exact hm o ho
    · rw [numP_app, numP_app]
      simp only [numP, St.num]
      rw [numTs_perm (srt_perm (ts ++ [o])), numTs_app]
      simp only [numTs]
      omega
/-! all deep -/
mutual
def deepSt : St → St
  | .mk _ l ts => .mk true l (deepTs ts)
def deepTs : List Pt → List Pt
  | [] => []
  | p :: ps => deepSs p :: deepTs ps
def deepSs : Pt → Pt
  | [] => []
  | s :: r => deepSt s :: deepSs r
end
theorem deepTs_map : ∀ ts : List Pt, deepTs ts = ts.map deepSs
  | [] => by rw [deepTs]; rfl
  | p :: ps => by rw [deepTs, deepTs_map ps]; rfl
theorem deepSs_map : ∀ p : Pt, deepSs p = p.map deepSt
  | [] => by rw [deepSs]; rfl
  | p :: ps => by rw [deepSs, deepSs_map ps]; rfl
theorem cands_sub_deep {d : Bool} {kids : List (Node × Tr)} {y : Node × Tr} (h : y ∈ cands d kids) : y ∈ cands true kids := by
  cases d with
  | true => exact h
  | false =>
    have h : y ∈ kids := h
    show y ∈ kids.flatMap fun y => allT y.1 y.2
    refine List.mem_flatMap.mpr ⟨y, h, ?_⟩
    rw [allT_eq]; exact .head _
theorem deep_has : ∀ (p : Pt) (kids : List (Node × Tr)), hasB p kids = true → hasB (deepSs p) kids = true := by
  have main : ∀ (n : Nat) (p : Pt) (kids : List (Node × Tr)), numP p ≤ n → hasB p kids = true → hasB (deepSs p) kids = true := by
    intro n
    induction n with
    | zero =>
      intro p kids h _
      cases p with
      | nil => rw [deepSs, hasB]
      | cons s r => have := num_pos s; rw [numP] at h; omega
    | succ n ih =>
      intro p kids h hh
      cases p with
      | nil => rw [deepSs, hasB]
      | cons s r =>
        obtain ⟨d, l, ts⟩ := s
        rw [numP, St.num] at h
        rw [hasB, List.any_eq_true] at hh
        obtain ⟨y, hy, h2⟩ := hh
        rw [Bool.and_eq_true] at h2
        obtain ⟨h3, h4⟩ := h2
        obtain ⟨h5, h6⟩ := St.fit_iff.mp h3
        rw [deepSs, deepSt, hasB, List.any_eq_true]
        refine ⟨y, cands_sub_deep hy, ?_⟩
        rw [Bool.and_eq_true]
        refine ⟨St.fit_iff.mpr ⟨h5, fun q hq => ?_⟩, ih r _ (by omega) h4⟩
        have hq : q ∈ deepTs ts := hq
        rw [deepTs_map] at hq
        obtain ⟨q', hq', rfl⟩ := List.mem_map.mp hq
        have := numTs_mem hq'
        exact ih q' _ (by omega) (h6 q' hq')
  exact fun p kids => main (numP p) p kids (Nat.le_refl _)
theorem deep_fit {s : St} {y : Node × Tr} (h : s.fit y = true) : (deepSt s).fit y = true := by
  obtain ⟨d, l, ts⟩ := s
  obtain ⟨h5, h6⟩ := St.fit_iff.mp h
  rw [deepSt]
  refine St.fit_iff.mpr ⟨h5, fun q hq => ?_⟩
  have hq : q ∈ deepTs ts := hq
  rw [deepTs_map] at hq
  obtain ⟨q', hq', rfl⟩ := List.mem_map.mp hq
  exact deep_has q' _ (h6 q' hq')
theorem deep_ways : ∀ (p : Pt) (kids : List (Node × Tr)), ∀ w ∈ waysK p kids, w ∈ waysK (deepSs p) kids
  | [], kids, w, h => h
  | s :: r, kids, w, h => by
    rw [waysK] at h
    obtain ⟨y, hy, h⟩ := List.mem_flatMap.mp h
    obtain ⟨v, hv, rfl⟩ := List.mem_map.mp h
    obtain ⟨h1, h2⟩ := List.mem_filter.mp hy
    rw [deepSs, waysK]
    refine List.mem_flatMap.mpr ⟨y, List.mem_filter.mpr ⟨?_, deep_fit h2⟩, List.mem_map.mpr ⟨v, deep_ways r _ v hv, rfl⟩⟩
    obtain ⟨d, l, ts⟩ := s
    exact cands_sub_deep h1
theorem within_deep (p : Pt) : Within p (deepSs p) := fun t n hn => by
  obtain ⟨w, hw, e⟩ := mem_fk.mp hn
  exact mem_fk.mpr ⟨w, deep_ways p _ w hw, e⟩
theorem deep_good {L K : Nat} : ∀ p : Pt, goodP L K p → goodP L K (deepSs p) ∧ numP (deepSs p) = numP p := by
  refine numP_ind fun p ih h => ?_
  obtain ⟨h1, h2, h3⟩ := goodP_iff.mp h
  have hnum : ∀ (r : Pt), (∀ s ∈ r, s ∈ p) → numP (deepSs r) = numP r := by
    intro r
    induction r with
    | nil => intro _; rw [deepSs]
    | cons s r ihr =>
      intro hr
      rw [deepSs, numP, numP, ihr fun s hs => hr s (.tail _ hs)]
      have ih := ih s (hr s (.head _))
      have hg := h3 s (hr s (.head _))
      obtain ⟨d, l, ts⟩ := s
      have ih : ∀ q ∈ ts, goodP L K q → goodP L K (deepSs q) ∧ numP (deepSs q) = numP q := ih
      have hg := (good_iff.mp hg).2.2
      have : ∀ xs : List Pt, (∀ x ∈ xs, x ∈ ts) → numTs (deepTs xs) = numTs xs := by
        intro xs
        induction xs with
        | nil => intro _; rw [deepTs]
        | cons x xs ihx =>
          intro hx
          rw [deepTs, numTs, numTs, ihx fun y hy => hx y (.tail _ hy), (ih x (hx x (.head _)) (hg x (hx x (.head _)))).2]
      rw [deepSt, St.num, St.num, this ts fun x hx => hx]
  refine ⟨goodP_iff.mpr ⟨by rw [deepSs_map, List.length_map]; exact h1, by rw [deepSs_map, List.length_map]; exact h2, fun s hs => ?_⟩, hnum p fun s hs => hs⟩
  rw [deepSs_map] at hs
  obtain ⟨s', hs', rfl⟩ := List.mem_map.mp hs
  have ih := ih s' hs'
  have hg := h3 s' hs'
  obtain ⟨d, l, ts⟩ := s'
  obtain ⟨g1, g2, g3⟩ := good_iff.mp hg
  rw [deepSt]
  refine good_iff.mpr ⟨g1, ?_, fun q hq => ?_⟩
  · show (deepTs ts).length ≤ K
    rw [deepTs_map, List.length_map]; exact g2
  · have hq : q ∈ deepTs ts := hq
    rw [deepTs_map] at hq
    obtain ⟨q', hq', rfl⟩ := List.mem_map.mp hq
    exact (ih q' hq' (g3 q' hq')).1
/-! sorted sets, filtered -/
theorem setN_filter {a c : List Node} {f : Node → Bool} (h : ∀ n, n ∈ c ↔ n ∈ a ∧ f n = true) : (setN a).filter f = setN c := by
  refine pw_unique encsN (nodup_perm ((nodup_setN a).sublist List.filter_sublist) (nodup_setN c) fun n => ?_) ((pw_setN a).sublist List.filter_sublist) (pw_setN c)
  rw [List.mem_filter, mem_setN, mem_setN]
  exact (h n).symm
end Pu
/-! trees that change -/
namespace Pu
open PySem L2
/-- a node with other kids -/
def Tr.setK : Tr → Node → List Tr → Tr
  | t, [], ks => .mk t.let_ ks
  | t, i :: r, ks => match t.kids[i]? with
    | some k => .mk t.let_ (t.kids.take i ++ [k.setK r ks] ++ t.kids.drop (i + 1))
    | none => t
theorem setK_cons {t : Tr} {i : Nat} {r : Node} {ks : List Tr} {k : Tr} (h : t.kids[i]? = some k) : t.setK (i :: r) ks = .mk t.let_ (t.kids.take i ++ [k.setK r ks] ++ t.kids.drop (i + 1)) := by
  rw [Tr.setK, h]
theorem sub_cons {t : Tr} {i : Nat} {r : Node} {s : Tr} (h : t.sub (i :: r) = some s) : ∃ k, t.kids[i]? = some k ∧ k.sub r = some s := by
  rw [Tr.sub] at h
  split at h
  · rename_i k hk
    exact ⟨k, hk, h⟩
  · cases h
theorem put_get {α : Type} {xs : List α} {i : Nat} {x y : α} (h : xs[i]? = some x) (j : Nat) : (xs.take i ++ [y] ++ xs.drop (i + 1))[j]? = if j = i then some y else xs[j]? := by
  have hl := (List.getElem?_eq_some_iff.mp h).1
  have e : xs.take i ++ [y] ++ xs.drop (i + 1) = xs.set i y := by
    rw [List.append_assoc, List.singleton_append, List.set_eq_take_append_cons_drop, if_pos hl]
  rw [e, List.getElem?_set]
  by_cases hj : i = j
  · subst hj; simp [hl]
  · rw [if_neg hj, if_neg (fun z => hj z.symm)]
theorem mk_eta (t : Tr) : Tr.mk t.let_ t.kids = t := by cases t; rfl
theorem setK_at : ∀ (nd : Node) (t s : Tr) (ks : List Tr), t.sub nd = some s → (t.setK nd ks).sub nd = some (.mk s.let_ ks)
  | [], t, s, ks, h => by cases h; rfl
  | i :: r, t, s, ks, h => by
    obtain ⟨k, hk, hs⟩ := sub_cons h
    rw [setK_cons hk, Tr.sub]
    show (match (t.kids.take i ++ [k.setK r ks] ++ t.kids.drop (i + 1))[i]? with | some k => k.sub r | none => none) = _
    rw [put_get hk, if_pos rfl]
    exact setK_at r k s ks hs
theorem setK_setK : ∀ (nd : Node) (t s : Tr) (a b : List Tr), t.sub nd = some s → (t.setK nd a).setK nd b = t.setK nd b
  | [], t, s, a, b, h => rfl
  | i :: r, t, s, a, b, h => by
    obtain ⟨k, hk, hs⟩ := sub_cons h
    have hg : (Tr.mk t.let_ (t.kids.take i ++ [k.setK r a] ++ t.kids.drop (i + 1))).kids[i]? = some (k.setK r a) := by
      show (t.kids.take i ++ [k.setK r a] ++ t.kids.drop (i + 1))[i]? = _
      rw [put_get hk, if_pos rfl]
    rw [setK_cons hk, setK_cons hg, setK_cons hk, setK_setK r k s a b hs]
    have hl := (List.getElem?_eq_some_iff.mp hk).1
    have h1 : (t.kids.take i ++ [k.setK r a] ++ t.kids.drop (i + 1)).take i = t.kids.take i := by
      rw [List.append_assoc, List.take_append_of_le_length (by rw [List.length_take]; omega), List.take_take, Nat.min_self]
    have h2 : (t.kids.take i ++ [k.setK r a] ++ t.kids.drop (i + 1)).drop (i + 1) = t.kids.drop (i + 1) := by
      rw [List.drop_append_of_le_length (by rw [List.length_append, List.length_take, List.length_singleton]; omega)]
      rw [List.drop_eq_nil_of_le (by rw [List.length_append, List.length_take, List.length_singleton]; omega)]
      rfl
    show Tr.mk t.let_ ((t.kids.take i ++ [k.setK r a] ++ t.kids.drop (i + 1)).take i ++ _ ++ (t.kids.take i ++ [k.setK r a] ++ t.kids.drop (i + 1)).drop (i + 1)) = _
    rw [h1, h2]
theorem setK_self : ∀ (nd : Node) (t s : Tr), t.sub nd = some s → t.setK nd s.kids = t
  | [], t, s, h => by cases h; exact mk_eta t
  | i :: r, t, s, h => by
    obtain ⟨k, hk, hs⟩ := sub_cons h
    rw [setK_cons hk, setK_self r k s hs]
    have := split_at hk
    rw [List.append_assoc, List.singleton_append, ← this]
    exact mk_eta t
theorem size_eta (t : Tr) : t.size = 1 + Tr.sizes t.kids := by cases t; rw [Tr.size]; rfl
theorem setK_size : ∀ (nd : Node) (t s : Tr) (ks : List Tr), t.sub nd = some s → (t.setK nd ks).size + Tr.sizes s.kids = t.size + Tr.sizes ks
  | [], t, s, ks, h => by
    cases h
    rw [size_eta t]
    show (Tr.mk t.let_ ks).size + _ = _
    rw [Tr.size]; omega
  | i :: r, t, s, ks, h => by
    obtain ⟨k, hk, hs⟩ := sub_cons h
    have ih := setK_size r k s ks hs
    rw [setK_cons hk, Tr.size, size_eta t]
    conv => rhs; rw [split_at hk]
    simp only [sizes_app, Tr.sizes]
    omega
theorem setK_ok : ∀ (nd : Node) (t : Tr) (ks : List Tr), t.ok → (∀ k ∈ ks, k.ok) → (t.setK nd ks).ok
  | [], t, ks, h, hk => by
    obtain ⟨l, k0⟩ := t
    rw [Tr.ok] at h
    show (Tr.mk l ks).ok
    rw [Tr.ok, oks_iff]
    exact ⟨h.1, hk⟩
  | i :: r, t, ks, h, hk => by
    cases hg : t.kids[i]? with
    | none => rw [Tr.setK, hg]; exact h
    | some k =>
      obtain ⟨l, k0⟩ := t
      rw [Tr.ok, oks_iff] at h
      rw [setK_cons hg, Tr.ok, oks_iff]
      have hg : k0[i]? = some k := hg
      refine ⟨h.1, fun x hx => ?_⟩
      rcases List.mem_append.mp hx with hx | hx
      · rcases List.mem_append.mp hx with hx | hx
        · exact h.2 x (List.mem_of_mem_take hx)
        · rw [List.mem_singleton.mp hx]
          exact setK_ok r k ks (h.2 k (List.mem_of_getElem? hg)) hk
      · exact h.2 x (List.mem_of_mem_drop hx)
/-- each node is one of the other tree, with its letter -/
def Ext (t t' : Tr) : Prop := ∀ x s, t.sub x = some s → ∃ s', t'.sub x = some s' ∧ s'.let_ = s.let_
theorem ext_emb {t t' : Tr} (h : Ext t t') {g : Nat → Node} {R : List Row} {f : Nat} (hE : Emb t g R f) : Emb t' g R f := by
  intro i r hr
  obtain ⟨⟨s, h1, h2⟩, h3⟩ := hE i r hr
  obtain ⟨s', h4, h5⟩ := h _ s h1
  exact ⟨⟨s', h4, h5.trans h2⟩, h3⟩
theorem ext_finds {t t' : Tr} (h : Ext t t') {p : Pt} (hp : 1 ≤ p.length) : ∀ n ∈ findsT p t, n ∈ findsT p t' := fun n hn => by
  obtain ⟨g, h1, h2⟩ := (finds_iff hp).mp hn
  exact (finds_iff hp).mpr ⟨g, ext_emb h h1, h2⟩
/-- kids put behind the others -/
theorem setK_ext : ∀ (nd : Node) (t s : Tr) (more : List Tr), t.sub nd = some s → Ext t (t.setK nd (s.kids ++ more))
  | [], t, s, more, h => by
    cases h
    intro x u hx
    cases x with
    | nil => cases hx; exact ⟨_, rfl, rfl⟩
    | cons j y =>
      obtain ⟨k, hk, hu⟩ := sub_cons hx
      refine ⟨u, ?_, rfl⟩
      show (match (t.kids ++ more)[j]? with | some k => k.sub y | none => none) = _
      rw [List.getElem?_append_left (List.getElem?_eq_some_iff.mp hk).1, hk]
      exact hu
  | i :: r, t, s, more, h => by
    obtain ⟨k, hk, hs⟩ := sub_cons h
    have ih := setK_ext r k s more hs
    rw [setK_cons hk]
    intro x u hx
    cases x with
    | nil => cases hx; exact ⟨_, rfl, rfl⟩
    | cons j y =>
      obtain ⟨k', hk', hu⟩ := sub_cons hx
      by_cases hj : j = i
      · subst hj
        rw [hk] at hk'
        cases hk'
        obtain ⟨u', h1, h2⟩ := ih y u hu
        refine ⟨u', ?_, h2⟩
        show (match (t.kids.take j ++ [k.setK r (s.kids ++ more)] ++ t.kids.drop (j + 1))[j]? with | some k => k.sub y | none => none) = _
        rw [put_get hk, if_pos rfl]
        exact h1
      · refine ⟨u, ?_, rfl⟩
        show (match (t.kids.take i ++ [k.setK r (s.kids ++ more)] ++ t.kids.drop (i + 1))[j]? with | some k => k.sub y | none => none) = _
        rw [put_get hk, if_neg hj, hk']
        exact hu
/-- what is new lies at the new kids -/
theorem setK_new : ∀ (nd : Node) (t s : Tr) (more : List Tr), t.sub nd = some s → ∀ x u, (t.setK nd (s.kids ++ more)).sub x = some u → (∃ u', t.sub x = some u') ∨ ∃ j y, x = nd ++ j :: y ∧ s.kids.length ≤ j
  | [], t, s, more, h, x, u, hx => by
    cases h
    cases x with
    | nil => exact .inl ⟨_, rfl⟩
    | cons j y =>
      by_cases hj : j < t.kids.length
      · left
        obtain ⟨k, hk, hu⟩ := sub_cons hx
        have hk : (t.kids ++ more)[j]? = some k := hk
        rw [List.getElem?_append_left hj] at hk
        refine ⟨u, ?_⟩
        rw [Tr.sub, hk]
        exact hu
      · exact .inr ⟨j, y, rfl, by omega⟩
  | i :: r, t, s, more, h, x, u, hx => by
    obtain ⟨k, hk, hs⟩ := sub_cons h
    rw [setK_cons hk] at hx
    cases x with
    | nil => exact .inl ⟨_, rfl⟩
    | cons j y =>
      obtain ⟨k', hk', hu⟩ := sub_cons hx
      have hk' : (t.kids.take i ++ [k.setK r (s.kids ++ more)] ++ t.kids.drop (i + 1))[j]? = some k' := hk'
      rw [put_get hk] at hk'
      by_cases hj : j = i
      · subst hj
        rw [if_pos rfl] at hk'
        cases hk'
        rcases setK_new r k s more hs y u hu with ⟨u', h1⟩ | ⟨j', y', h1, h2⟩
        · left
          refine ⟨u', ?_⟩
          rw [Tr.sub, hk]
          exact h1
        · right
          exact ⟨j', y', by rw [h1]; rfl, h2⟩
      · rw [if_neg hj] at hk'
        left
        refine ⟨u, ?_⟩
        rw [Tr.sub, hk']
        exact hu
/-- beyond the kids there is no node -/
theorem sub_beyond {t s : Tr} {nd : Node} (h : t.sub nd = some s) {j : Nat} (hj : s.kids.length ≤ j) (y : Node) : t.sub (nd ++ j :: y) = none := by
  rw [sub_app, h]
  show s.sub (j :: y) = none
  rw [Tr.sub, List.getElem?_eq_none hj]
/-! what a node is called when another one is cut -/
def called (one : Node) (pre : Node) (i : Nat) : Option Node :=
  if one.take pre.length ≠ pre ∨ one.length < pre.length + 1 ∨ one.getD pre.length 0 < i then some one
  else if one.getD pre.length 0 = i then none
  else some (one.take pre.length ++ [one.getD pre.length 0 - 1] ++ one.drop (pre.length + 1))
def encNo : Option Node → D
  | none => .none
  | some n => encN n
theorem notin_No (o : Option Node) (ns : List Node) : cmpD .notin (encNo o) (encNs ns) = .ok (match o with | some n => !decide (n ∈ ns) | none => true) := by
  cases o with
  | some n => exact notin_nodes n ns
  | none =>
    have : cmpD .isin .none (encNs ns) = .ok false := by
      unfold encNs
      rw [cmp_in_t (.inl (Nat.zero_le _))]
      congr 1
      rw [List.any_eq_false]
      intro x hx
      obtain ⟨n, _, rfl⟩ := List.mem_map.mp hx
      simp [encN, PyData.eqv]
    have := cmp_notin this
    exact this
/-- at the last kid: it goes, all others keep their names -/
theorem called_last {t s : Tr} {pre : Node} {i : Nat} (hs : t.sub pre = some s) (hi : s.kids.length ≤ i + 1) {n : Node} {u : Tr} (hn : t.sub n = some u) : called n pre i = if (pre ++ [i]) <+: n then none else some n := by
  unfold called
  by_cases h1 : n.take pre.length = pre
  · obtain ⟨y, rfl⟩ : ∃ y, n = pre ++ y := ⟨n.drop pre.length, by conv => lhs; rw [← List.take_append_drop pre.length n, h1]⟩
    cases y with
    | nil =>
      rw [if_pos (.inr (.inl (by rw [List.append_nil]; omega))), if_neg]
      intro h
      have := h.length_le
      rw [List.append_nil, List.length_append, List.length_singleton] at this
      omega
    | cons j y =>
      have hj : j < s.kids.length := by
        by_cases hj : j < s.kids.length
        · exact hj
        · rw [sub_beyond hs (by omega)] at hn; cases hn
      have hg : (pre ++ j :: y).getD pre.length 0 = j := by
        rw [List.getD_eq_getElem?_getD, List.getElem?_append_right (Nat.le_refl _), Nat.sub_self]; rfl
      rw [hg]
      have hpre : (pre ++ [i]) <+: (pre ++ j :: y) ↔ j = i := by
        constructor
        · rintro ⟨z, hz⟩
          rw [List.append_assoc] at hz
          have := List.append_cancel_left hz
          exact (List.cons.inj this).1.symm
        · rintro rfl
          exact ⟨y, by rw [List.append_assoc]; rfl⟩
      by_cases hji : j = i
      · rw [if_neg, if_pos hji, if_pos (hpre.mpr hji)]
        intro h
        rcases h with h | h | h
        · exact h h1
        · rw [List.length_append, List.length_cons] at h; omega
        · omega
      · rw [if_pos (.inr (.inr (by omega))), if_neg (fun z => hji (hpre.mp z))]
  · rw [if_pos (.inl h1), if_neg]
    rintro ⟨z, rfl⟩
    rw [List.append_assoc] at h1
    exact h1 (by simp)
end Pu
/-! things with a part changed -/
namespace Pu
open PySem L2
mutual
/-- how many parts -/
def dsz : D → Nat
  | .none => 1
  | .bool _ => 1
  | .int _ => 1
  | .str _ => 1
  | .list xs => 1 + dszs xs
  | .tuple xs => 1 + dszs xs
  | .dict _ => 1
def dszs : List D → Nat
  | [] => 0
  | x :: xs => dsz x + dszs xs
end
theorem dsz_pos (d : D) : 1 ≤ dsz d := by cases d <;> rw [dsz] <;> omega
theorem dszs_app : ∀ xs ys : List D, dszs (xs ++ ys) = dszs xs + dszs ys
  | [], ys => by rw [List.nil_append, dszs]; omega
  | x :: xs, ys => by rw [List.cons_append, dszs, dszs, dszs_app xs ys]; omega
theorem dszs_rev : ∀ xs : List D, dszs xs.reverse = dszs xs
  | [] => rfl
  | x :: xs => by
    rw [List.reverse_cons, dszs_app, dszs_rev xs]
    simp only [dszs]; omega
theorem dszs_take (i : Nat) (xs : List D) : dszs (xs.take i) ≤ dszs xs := by
  conv => rhs; rw [← List.take_append_drop i xs]
  rw [dszs_app]; omega
theorem dszs_drop (i : Nat) (xs : List D) : dszs (xs.drop i) ≤ dszs xs := by
  conv => rhs; rw [← List.take_append_drop i xs]
  rw [dszs_app]; omega
theorem dszs_cut (xs : List D) (lo hi : Option Int) : dszs (cutL xs lo hi) ≤ dszs xs := by
  unfold cutL
  exact Nat.le_trans (dszs_take _ _) (dszs_drop _ _)
theorem cut_mem {α : Type} {xs : List α} {lo hi : Option Int} {x : α} (h : x ∈ cutL xs lo hi) : x ∈ xs := List.mem_of_mem_drop (List.mem_of_mem_take h)
theorem cut_len {α : Type} {xs : List α} {lo hi : Option Int} : (cutL xs lo hi).length ≤ xs.length := by
  unfold cutL
  rw [List.length_take, List.length_drop]
  omega
abbrev strP (s : Str) : Prop := s = "in" ∨ s = "deep" ∨ s = "a" ∨ s = "b" ∨ s = "c" ∨ s = "d"
def OD : Nat → D → Prop
  | 0, _ => False
  | n + 1, d => (∃ s, d = .str s ∧ strP s) ∨ (∃ i, d = .int i) ∨ ∃ xs, d = .tuple xs ∧ xs.length ≤ 100 ∧ ∀ x ∈ xs, OD n x
theorem str_facts {s : Str} (h : strP s) : s.length ≤ 4 ∧ PyData.strOk (Txt.upper s) = true ∧ (Txt.upper s).length ≤ 1000 := by
  rcases h with rfl | rfl | rfl | rfl | rfl | rfl <;> decide +kernel
theorem OD.wf : ∀ {n : Nat} {d : D}, OD n d → Wf n d
  | n + 1, d, .inl ⟨s, e, h⟩ => by subst e; have := (str_facts h).1; show s.length ≤ 1000; omega
  | n + 1, d, .inr (.inl ⟨i, e⟩) => by subst e; exact trivial
  | n + 1, d, .inr (.inr ⟨xs, e, h1, h2⟩) => by subst e; exact ⟨by omega, fun x hx => (h2 x hx).wf⟩
theorem OD.mono : ∀ {n : Nat} {d : D}, OD n d → OD (n + 1) d
  | n + 1, d, .inl h => .inl h
  | n + 1, d, .inr (.inl h) => .inr (.inl h)
  | n + 1, d, .inr (.inr ⟨xs, e, h1, h2⟩) => .inr (.inr ⟨xs, e, h1, fun x hx => (h2 x hx).mono⟩)
theorem OD.le {n m : Nat} {d : D} (h : OD n d) (hm : n ≤ m) : OD m d := by
  obtain ⟨k, rfl⟩ := Nat.exists_eq_add_of_le hm
  clear hm
  induction k with
  | zero => exact h
  | succ k ih => exact ih.mono
theorem rep_mem {α : Type} {xs : List α} {k : Int} {x : α} (h : x ∈ repL k xs) : x ∈ xs := by
  unfold repL at h
  obtain ⟨l, hl, hx⟩ := List.mem_flatten.mp h
  rw [List.eq_of_mem_replicate hl] at hx
  exact hx
theorem rep_len2 {α : Type} (xs : List α) : (repL 2 xs).length = xs.length * 2 := by
  show (List.replicate 2 xs).flatten.length = _
  simp [List.replicate_succ]
  omega
theorem mul_l2 {xs : List D} (h : xs.length ≤ 1000) : binD .mul (.list xs) (.int 2) = .ok (.list (repL 2 xs)) := by
  show Rs.guard _ _ = _
  refine guard_of ?_
  simp only [Bool.and_eq_true, decide_eq_true_eq, line_eq]
  refine ⟨⟨by decide, by decide⟩, ?_⟩
  show xs.length * 2 ≤ _
  omega
theorem ix_list {xs : List D} {i : Int} (h0 : 0 ≤ i) (h1 : i < xs.length) : ∃ x, ixD (.list xs) (.int i) = .ok x ∧ x ∈ xs := by
  have hk : i.toNat < xs.length := by omega
  refine ⟨xs[i.toNat], ?_, List.getElem_mem _⟩
  show Rs.ofO (atI xs i) = _
  rw [atI_nn h0, List.getElem?_eq_getElem hk]
  rfl
def baseO : List D := [.none, .bool true, .bool false, .int 0, .int 1, .int (-1), .int 2, .int 7, .int 10, .int 1000, .str "", .str "a", .str "A", .tuple [], .tuple [.str "a"], .list [.int 1]]
/-- well bounded: deep n, few parts -/
def Bd (n m : Nat) (d : D) : Prop := Wf n d ∧ dsz d ≤ m
theorem baseO_bd (n m : Nat) (hm : 2 ≤ m) : ∀ x ∈ baseO, Bd (n + 3) m x := by
  have e0 : ("" : Str).length = 0 := by decide +kernel
  have e1 : ("a" : Str).length = 1 := by decide +kernel
  have e2 : ("A" : Str).length = 1 := by decide +kernel
  have w : ∀ x ∈ baseO, Wf (n + 3) x := by simp [baseO, Wf, e0, e1, e2]
  have z : ∀ x ∈ baseO, dsz x ≤ 2 := by simp [baseO, dsz, dszs]
  exact fun x hx => ⟨w x hx, Nat.le_trans (z x hx) hm⟩
theorem baseO_len : baseO.length = 16 := rfl
abbrev extT (xs : List D) : List D := [.list xs, .tuple (xs ++ cutL xs (some (-1)) none), .tuple (cutL xs none (some (-1))), .tuple xs.reverse, .tuple (cutL xs (some 1) none), .tuple [.tuple xs]]
abbrev extS (s : Str) : List D := [.str (s ++ "a"), .str ⟨(cutL s.cps.toList none (some (-1))).toArray⟩, .str (Txt.upper s), .str (s ++ " "), .str (s ++ s), .list [.str s], .str (s ++ ⟨(cutL s.cps.toList none (some 1)).toArray⟩)]
abbrev extI (i : Int) : List D := [.int (i + 1), .int (i - 1), .int (0 - i), .tuple [.int i], .int (i + 2), .int (i * 2)]
theorem len_appS (s t : Str) : (s ++ t).length = s.length + t.length := by
  show (s.cps ++ t.cps).size = _
  rw [Array.size_append]; rfl
theorem bin_add_s {s t : Str} (h : s.length + t.length ≤ 2000) : binD .add (.str s) (.str t) = .ok (.str (s ++ t)) := by
  show Rs.guard (decide (s.length + t.length ≤ line)) _ = _
  rw [decide_eq_true (by rw [line_eq]; omega), Rs.guard_true]
theorem sl_s {s : Str} (h : s.length ≤ 1000) (lo hi : Option Int) : slD (.str s) lo hi = .ok (.str ⟨(cutL s.cps.toList lo hi).toArray⟩) := by
  show Rs.guard (decide (s.length ≤ line)) _ = _
  rw [decide_eq_true (by rw [line_eq]; omega), Rs.guard_true]
theorem mul_s2 {s : Str} (h : s.length ≤ 1000) : binD .mul (.str s) (.int 2) = .ok (.str (s ++ s)) := by
  show Rs.guard (decide ((2 : Int) = 2) && decide (s.length * 2 ≤ line)) _ = _
  rw [decide_eq_true (rfl : (2 : Int) = 2), decide_eq_true (by rw [line_eq]; omega)]
  rfl
theorem up_s {s : Str} (h : s.length ≤ 1000) (g : PyData.strOk (Txt.upper s) = true) : meD .upper (.str s) [] = .ok (.str (Txt.upper s)) := by
  show Rs.guard (decide (s.length ≤ 1000) && PyData.strOk (Txt.upper s)) _ = _
  rw [decide_eq_true h, g]
  rfl
theorem cut_slen (s : Str) (lo hi : Option Int) : (⟨(cutL s.cps.toList lo hi).toArray⟩ : Str).length ≤ s.length := by
  show (cutL s.cps.toList lo hi).toArray.size ≤ s.cps.size
  have := cut_len (xs := s.cps.toList) (lo := lo) (hi := hi)
  simpa using this
theorem s_1 : ("a" : Str).length = 1 := by decide +kernel
theorem s_2 : (" " : Str).length = 1 := by decide +kernel
theorem extS_bd {s : Str} (hs : strP s) (n m : Nat) (hm : 2 ≤ m) : ∀ x ∈ extS s, Bd (n + 3) m x := by
  obtain ⟨f1, f2, f3⟩ := str_facts hs
  have c1 := cut_slen s none (some (-1))
  have c2 := cut_slen s none (some 1)
  intro x h
  simp only [List.mem_cons, List.not_mem_nil, or_false] at h
  rcases h with rfl | rfl | rfl | rfl | rfl | rfl | rfl
  · exact ⟨by show (s ++ "a").length ≤ 1000; rw [len_appS, s_1]; omega, by rw [dsz]; omega⟩
  · exact ⟨by show (⟨(cutL s.cps.toList none (some (-1))).toArray⟩ : Str).length ≤ 1000; omega, by rw [dsz]; omega⟩
  · exact ⟨f3, by rw [dsz]; omega⟩
  · exact ⟨by show (s ++ " ").length ≤ 1000; rw [len_appS, s_2]; omega, by rw [dsz]; omega⟩
  · exact ⟨by show (s ++ s).length ≤ 1000; rw [len_appS]; omega, by rw [dsz]; omega⟩
  · exact ⟨⟨by simp, fun y hy => by rw [List.mem_singleton.mp hy]; show s.length ≤ 1000; omega⟩, by rw [dsz, dszs, dszs, dsz]; omega⟩
  · exact ⟨by show (s ++ ⟨(cutL s.cps.toList none (some 1)).toArray⟩).length ≤ 1000; rw [len_appS]; omega, by rw [dsz]; omega⟩
theorem extI_bd (i : Int) (n m : Nat) (hm : 2 ≤ m) : ∀ x ∈ extI i, Bd (n + 3) m x := by
  intro x h
  simp only [List.mem_cons, List.not_mem_nil, or_false] at h
  rcases h with rfl | rfl | rfl | rfl | rfl | rfl
  · exact ⟨trivial, by rw [dsz]; omega⟩
  · exact ⟨trivial, by rw [dsz]; omega⟩
  · exact ⟨trivial, by rw [dsz]; omega⟩
  · exact ⟨⟨by simp, fun y hy => by rw [List.mem_singleton.mp hy]; trivial⟩, by rw [dsz, dszs, dszs, dsz]; omega⟩
  · exact ⟨trivial, by rw [dsz]; omega⟩
  · exact ⟨trivial, by rw [dsz]; omega⟩
theorem extT_bd {xs : List D} {n : Nat} (hl : xs.length ≤ 100) (hx : ∀ x ∈ xs, Wf n x) (m : Nat) (hm : 2 + 2 * dszs xs ≤ m) : ∀ x ∈ extT xs, Bd (n + 3) m x := by
  have c1 := cut_len (xs := xs) (lo := none) (hi := some (-1))
  have c2 := cut_len (xs := xs) (lo := some (-1)) (hi := none)
  have c3 := cut_len (xs := xs) (lo := some 1) (hi := none)
  have d1 := dszs_cut xs none (some (-1))
  have d2 := dszs_cut xs (some (-1)) none
  have d3 := dszs_cut xs (some 1) none
  have wx : ∀ x ∈ xs, Wf (n + 2) x := fun x h => (hx x h).le (by omega)
  intro x h
  simp only [List.mem_cons, List.not_mem_nil, or_false] at h
  rcases h with rfl | rfl | rfl | rfl | rfl | rfl
  · exact ⟨⟨by omega, wx⟩, by rw [dsz]; omega⟩
  · refine ⟨⟨by rw [List.length_append]; omega, fun y hy => ?_⟩, by rw [dsz, dszs_app]; omega⟩
    rcases List.mem_append.mp hy with h | h
    · exact wx y h
    · exact wx y (cut_mem h)
  · exact ⟨⟨by omega, fun y hy => wx y (cut_mem hy)⟩, by rw [dsz]; omega⟩
  · exact ⟨⟨by rw [List.length_reverse]; omega, fun y hy => wx y (List.mem_reverse.mp hy)⟩, by rw [dsz, dszs_rev]; omega⟩
  · exact ⟨⟨by omega, fun y hy => wx y (cut_mem hy)⟩, by rw [dsz]; omega⟩
  · exact ⟨⟨by simp, fun y hy => by rw [List.mem_singleton.mp hy]; exact ⟨by omega, fun z hz => (hx z hz).le (by omega)⟩⟩, by rw [dsz, dszs, dszs, dsz]; omega⟩
theorem ne_unit (xs : List D) : cmpD .ne (.tuple xs) (.tuple []) = .ok (!xs.isEmpty) := by
  rw [cmp_ne (.inr (by decide))]
  cases xs <;> simp [PyData.eqv, PyData.eqvAll]
theorem rev_t (xs : List D) : revD (.tuple xs) = .ok (.tuple xs.reverse) := rfl
theorem list_t (xs : List D) : biD .list [.tuple xs] = .ok (.list xs) := rfl
/-! sizes of encodings -/
theorem dsz_encN (n : Node) : dsz (encN n) = 1 + n.length := by
  unfold encN
  rw [dsz]
  induction n with
  | nil => rfl
  | cons a n ih =>
    rw [List.map_cons, dszs, dsz, List.length_cons]
    omega
mutual
theorem dsz_tr : ∀ t : Tr, dsz t.enc = 3 * t.size
  | .mk l ks => by rw [Tr.enc, dsz, dszs, dszs, dszs, dsz, dsz, dszs_tr ks, Tr.size]; omega
theorem dszs_tr : ∀ ks : List Tr, dszs (Tr.encs ks) = 3 * Tr.sizes ks
  | [] => by rw [Tr.encs, dszs, Tr.sizes]
  | k :: ks => by rw [Tr.encs, dszs, dsz_tr k, dszs_tr ks, Tr.sizes]; omega
end
theorem tr_od : ∀ (n : Nat) (t : Tr), t.ok → t.size ≤ n → n ≤ 100 → OD (2 * n) t.enc
  | 0, t, _, h, _ => by have := size_pos t; omega
  | n + 1, .mk l ks, ho, h, h9 => by
    rw [Tr.ok, oks_iff] at ho
    rw [Tr.size] at h
    rw [Tr.enc, encs_map]
    refine .inr (.inr ⟨_, rfl, by show 2 ≤ 100; omega, fun x hx => ?_⟩)
    rcases List.mem_cons.mp hx with rfl | hx
    · exact .inl ⟨l, rfl, by rcases ho.1 with h | h | h | h <;> simp [strP, h]⟩
    · rw [List.mem_singleton.mp hx]
      refine .inr (.inr ⟨_, rfl, by rw [List.length_map]; have := len_sizes ks; omega, fun y hy => ?_⟩)
      obtain ⟨k, hk, rfl⟩ := List.mem_map.mp hy
      exact tr_od n k (ho.2 k hk) (by have := size_mem hk; omega) (by omega)
theorem encN_od (n : Node) (h : n.length ≤ 100) : OD 2 (encN n) := .inr (.inr ⟨_, rfl, by rw [List.length_map]; exact h, fun x hx => by
  obtain ⟨k, _, rfl⟩ := List.mem_map.mp hx
  exact .inr (.inl ⟨_, rfl⟩)⟩)
end Pu
/-! ### dicts in plain Lean -/
namespace Pu
open PySem L2
def keyN (n : Node) : NestedKey := .tup (n.map fun (k : Nat) => .num (k : Int))
theorem nks_ints : ∀ n : Node, nksOf (n.map fun (k : Nat) => (.int (k : Int) : D)) = some (n.map fun (k : Nat) => NestedKey.num (k : Int))
  | [] => by rw [List.map_nil, nksOf]; rfl
  | k :: n => by rw [List.map_cons, nksOf, nks_ints n, nkOf]; rfl
theorem depthAll_nums : ∀ n : Node, NestedKey.depthAll (n.map fun (k : Nat) => NestedKey.num (k : Int)) = 0
  | [] => rfl
  | k :: n => by
    show max 0 (NestedKey.depthAll (n.map fun (k : Nat) => NestedKey.num (k : Int))) = 0
    rw [depthAll_nums n]; rfl
theorem key_encN (n : Node) : keyD (encN n) = some (keyN n) := by
  unfold keyD encN
  have e : nkOf (.tuple (n.map fun (k : Nat) => (.int (k : Int) : D))) = some (keyN n) := by rw [nkOf, nks_ints]; rfl
  rw [e]
  have hd : (keyN n).depth ≤ 8 := by
    show NestedKey.depthAll _ + 1 ≤ 8
    rw [depthAll_nums]; decide
  simp [isTupD, hd]
theorem keyN_inj {a b : Node} (h : keyN a = keyN b) : a = b := by
  unfold keyN at h
  injection h with h
  have : ∀ a b : Node, (a.map fun (k : Nat) => NestedKey.num (k : Int)) = (b.map fun (k : Nat) => NestedKey.num (k : Int)) → a = b := by
    intro a
    induction a with
    | nil => intro b h; cases b with
      | nil => rfl
      | cons => simp at h
    | cons x xs ih =>
      intro b h
      cases b with
      | nil => simp at h
      | cons y ys =>
        rw [List.map_cons, List.map_cons] at h
        injection h with h1 h2
        injection h1 with h1
        rw [ih ys h2, show x = y by omega]
  exact this a b h
section
variable {α : Type} (f : α → Node) (g : α → D)
abbrev prD (x : α) : D := .tuple [encN (f x), g x]
theorem pairs_map : ∀ xs : List α, pairsD (xs.map (prD f g)) = some (xs.map fun x => (encN (f x), g x))
  | [] => rfl
  | x :: xs => by
    show (pairsD (xs.map (prD f g))).map _ = _
    rw [pairs_map xs]; rfl
theorem keys_map : ∀ xs : List α, keysD (xs.map fun x => (encN (f x), g x)) = some (xs.map fun x => keyN (f x))
  | [] => rfl
  | x :: xs => by
    show (keyD (encN (f x))).bind (fun k => (keysD (xs.map fun x => (encN (f x), g x))).map (k :: ·)) = _
    rw [keys_map xs, key_encN]; rfl
theorem dct_map {xs : List α} (h : (xs.map f).Nodup) (hl : xs.length ≤ 16777216) : dctD (.list (xs.map (prD f g))) = .ok (xs.map fun x => (encN (f x), g x)) := by
  have hn : (xs.map fun x => keyN (f x)).Nodup := by
    have : (xs.map fun x => keyN (f x)) = (xs.map f).map keyN := by rw [List.map_map]; rfl
    rw [this]
    exact List.Pairwise.map keyN (fun a b hab e => hab (keyN_inj e)) h
  show (Rs.ofO (pairsD (xs.map (prD f g)))).bind _ = _
  rw [pairs_map, Rs.ofO_some, Rs.bind_ok, keys_map, Rs.ofO_some, Rs.bind_ok, List.length_map]
  rw [decide_eq_true hn, Bool.true_and, decide_eq_true (show xs.length ≤ line from hl), Rs.guard_true]
theorem dlook_map (n : Node) : ∀ xs : List α, dlook (xs.map fun x => (encN (f x), g x)) (keyN n) = (xs.find? fun x => decide (f x = n)).map g
  | [] => rfl
  | x :: xs => by
    rw [List.map_cons, dlook, List.find?_cons]
    by_cases h : f x = n
    · rw [if_pos (by rw [key_encN, h]), decide_eq_true h]; rfl
    · rw [if_neg (by rw [key_encN]; intro e; exact h (keyN_inj (Option.some.inj e))), decide_eq_false h]
      exact dlook_map n xs
theorem dix_map (n : Node) (xs : List α) {x : α} (hx : x ∈ xs) (hn : f x = n) (nd : (xs.map f).Nodup) : dixD (xs.map fun x => (encN (f x), g x)) (encN n) = .ok (g x) := by
  unfold dixD
  rw [key_encN, Rs.ofO_some, Rs.bind_ok, dlook_map]
  have : xs.find? (fun x => decide (f x = n)) = some x := by
    induction xs with
    | nil => cases hx
    | cons y ys ih =>
      rw [List.find?_cons]
      by_cases hy : f y = n
      · rw [decide_eq_true hy]
        rcases List.mem_cons.mp hx with rfl | h
        · rfl
        · rw [List.map_cons, List.nodup_cons] at nd
          exact absurd (List.mem_map.mpr ⟨x, h, hn.trans hy.symm⟩) nd.1
      · rw [decide_eq_false hy]
        rcases List.mem_cons.mp hx with rfl | h
        · exact absurd hn hy
        · rw [List.map_cons, List.nodup_cons] at nd
          exact ih h nd.2
  rw [this]; rfl
end
end Pu
/-! ### a cut tree's nodes, as they were called ahead -/
namespace Pu
open PySem L2
def nodesF : Nat → List Tr → List Node
  | _, [] => []
  | i, k :: ks => ((nodesT k).map fun n => i :: n) ++ nodesF (i + 1) ks
theorem allF_nodes : ∀ (ks : List Tr) (i : Nat), (allF [] i ks).map (·.1) = nodesF i ks
  | [], _ => by rw [allF]; rfl
  | k :: ks, i => by
    rw [allF, List.map_append, allF_nodes ks (i + 1), nodesF]
    congr 1
    have e : allT ([] ++ [i]) k = (allT [] k).map fun y => ([i] ++ y.1, y.2) := allT_pre k [i] []
    rw [e, List.map_map]
    unfold nodesT
    rw [List.map_map]
    rfl
theorem nodesT_mk (l : Str) (ks : List Tr) : nodesT (.mk l ks) = [] :: nodesF 0 ks := by
  unfold nodesT
  rw [allT, List.map_cons, allF_nodes]
theorem nodesF_app : ∀ (a b : List Tr) (i : Nat), nodesF i (a ++ b) = nodesF i a ++ nodesF (i + a.length) b
  | [], b, i => rfl
  | k :: a, b, i => by
    rw [List.cons_append, nodesF, nodesF, nodesF_app a b (i + 1), List.append_assoc, List.length_cons, show i + 1 + a.length = i + (a.length + 1) by omega]
theorem head_F : ∀ {ks : List Tr} {i : Nat} {n : Node}, n ∈ nodesF i ks → ∃ x r, n = x :: r ∧ i ≤ x ∧ x < i + ks.length
  | [], _, _, h => by cases h
  | k :: ks, i, n, h => by
    rw [nodesF, List.mem_append] at h
    rcases h with h | h
    · obtain ⟨r, _, rfl⟩ := List.mem_map.mp h
      exact ⟨i, r, rfl, Nat.le_refl _, by rw [List.length_cons]; omega⟩
    · obtain ⟨x, r, e, h1, h2⟩ := head_F h
      exact ⟨x, r, e, by omega, by rw [List.length_cons]; omega⟩
def upH : Node → Node
  | [] => []
  | x :: r => (x + 1) :: r
theorem shift_F : ∀ (ks : List Tr) (i : Nat), (nodesF i ks).map upH = nodesF (i + 1) ks
  | [], _ => rfl
  | k :: ks, i => by
    rw [nodesF, nodesF, List.map_append, shift_F ks (i + 1), List.map_map]
    rfl
/-- what a node was called before its tree was cut -/
def back : Node → Nat → Node → Node
  | _, _, [] => []
  | [], i, x :: r => (if i ≤ x then x + 1 else x) :: r
  | a :: pre, i, x :: r => if x = a then x :: back pre i r else x :: r
theorem map_id_of {α : Type} {f : α → α} {xs : List α} (h : ∀ x ∈ xs, f x = x) : xs.map f = xs := by
  induction xs with
  | nil => rfl
  | cons x xs ih => rw [List.map_cons, h x (.head _), ih fun y hy => h y (.tail _ hy)]
theorem filter_all {α : Type} {p : α → Bool} {xs : List α} (h : ∀ x ∈ xs, p x = true) : xs.filter p = xs := List.filter_eq_self.mpr h
theorem filter_none {α : Type} {p : α → Bool} {xs : List α} (h : ∀ x ∈ xs, p x = false) : xs.filter p = [] := List.filter_eq_nil_iff.mpr fun x hx => by rw [h x hx]; exact Bool.false_ne_true
theorem back_nodes : ∀ (pre : Node) (t s : Tr) (i : Nat), t.sub pre = some s → i < s.kids.length → (nodesT (t.setK pre (s.kids.take i ++ s.kids.drop (i + 1)))).map (back pre i) = (nodesT t).filter fun n => !decide (n.take (pre.length + 1) = pre ++ [i])
  | [], t, s, i, h, hi => by
    cases h
    obtain ⟨l, ks⟩ := t
    have hi : i < ks.length := hi
    have hk : ks[i]? = some ks[i] := List.getElem?_eq_getElem hi
    show (nodesT (.mk l (ks.take i ++ ks.drop (i + 1)))).map (back [] i) = _
    have hla : (ks.take i).length = i := by rw [List.length_take]; omega
    have hsp : nodesF 0 ks = nodesF 0 (ks.take i) ++ (((nodesT ks[i]).map fun n => i :: n) ++ nodesF (i + 1) (ks.drop (i + 1))) := by
      conv => lhs; rw [split_at hk]
      rw [nodesF_app, hla, Nat.zero_add, nodesF]
    rw [nodesT_mk, nodesT_mk, hsp, nodesF_app, hla, Nat.zero_add, List.map_cons, List.map_append, List.filter_cons, List.filter_append, List.filter_append]
    have e0 : (!decide (([] : Node).take (([] : Node).length + 1) = [] ++ [i])) = true := by simp
    have eb : back [] i [] = [] := rfl
    rw [if_pos e0, eb]
    congr 1
    have h1 : (nodesF 0 (ks.take i)).map (back [] i) = nodesF 0 (ks.take i) := map_id_of fun n hn => by
      obtain ⟨x, r, rfl, _, hx⟩ := head_F hn
      rw [hla] at hx
      rw [back, if_neg (by omega)]
    have h2 : (nodesF 0 (ks.take i)).filter (fun n => !decide (n.take (([] : Node).length + 1) = [] ++ [i])) = nodesF 0 (ks.take i) := filter_all fun n hn => by
      obtain ⟨x, r, rfl, _, hx⟩ := head_F hn
      rw [hla] at hx
      simp; omega
    have h3 : ((nodesT ks[i]).map fun n => i :: n).filter (fun n => !decide (n.take (([] : Node).length + 1) = [] ++ [i])) = [] := filter_none fun n hn => by
      obtain ⟨r, _, rfl⟩ := List.mem_map.mp hn
      simp
    have h4 : (nodesF (i + 1) (ks.drop (i + 1))).filter (fun n => !decide (n.take (([] : Node).length + 1) = [] ++ [i])) = nodesF (i + 1) (ks.drop (i + 1)) := filter_all fun n hn => by
      obtain ⟨x, r, rfl, hx, _⟩ := head_F hn
      simp; omega
    have h5 : (nodesF i (ks.drop (i + 1))).map (back [] i) = nodesF (i + 1) (ks.drop (i + 1)) := by
      rw [← shift_F]
      refine List.map_congr_left fun n hn => ?_
      obtain ⟨x, r, rfl, hx, _⟩ := head_F hn
      rw [back, if_pos hx]; rfl
    rw [h1, h2, h3, h4, h5, List.nil_append]
  | a :: pre, t, s, i, h, hi => by
    obtain ⟨k, hk, hs⟩ := sub_cons h
    obtain ⟨l, ks⟩ := t
    have hk : ks[a]? = some k := hk
    have ih := back_nodes pre k s i hs hi
    have ha : a < ks.length := (List.getElem?_eq_some_iff.mp hk).1
    have hla : (ks.take a).length = a := by rw [List.length_take]; omega
    rw [setK_cons (t := .mk l ks) hk]
    show (nodesT (.mk l (ks.take a ++ [k.setK pre (s.kids.take i ++ s.kids.drop (i + 1))] ++ ks.drop (a + 1)))).map (back (a :: pre) i) = _
    have hsp : nodesF 0 ks = nodesF 0 (ks.take a) ++ (((nodesT k).map fun n => a :: n) ++ nodesF (a + 1) (ks.drop (a + 1))) := by
      conv => lhs; rw [split_at hk]
      rw [nodesF_app, hla, Nat.zero_add, nodesF]
    rw [nodesT_mk, nodesT_mk, hsp, List.append_assoc, nodesF_app, hla, Nat.zero_add, List.singleton_append, nodesF, List.map_cons, List.map_append, List.map_append, List.filter_cons, List.filter_append, List.filter_append]
    have e0 : (!decide (([] : Node).take ((a :: pre).length + 1) = a :: pre ++ [i])) = true := by simp
    have eb : back (a :: pre) i [] = [] := rfl
    rw [if_pos e0, eb]
    congr 1
    have h1 : (nodesF 0 (ks.take a)).map (back (a :: pre) i) = nodesF 0 (ks.take a) := map_id_of fun n hn => by
      obtain ⟨x, r, rfl, _, hx⟩ := head_F hn
      rw [hla] at hx
      rw [back, if_neg (by omega)]
    have h2 : (nodesF 0 (ks.take a)).filter (fun n => !decide (n.take ((a :: pre).length + 1) = a :: pre ++ [i])) = nodesF 0 (ks.take a) := filter_all fun n hn => by
      obtain ⟨x, r, rfl, _, hx⟩ := head_F hn
      rw [hla] at hx
      have : x ≠ a := by omega
      simp [this]
    have h3 : (nodesF (a + 1) (ks.drop (a + 1))).map (back (a :: pre) i) = nodesF (a + 1) (ks.drop (a + 1)) := map_id_of fun n hn => by
      obtain ⟨x, r, rfl, hx, _⟩ := head_F hn
      rw [back, if_neg (by omega)]
    have h4 : (nodesF (a + 1) (ks.drop (a + 1))).filter (fun n => !decide (n.take ((a :: pre).length + 1) = a :: pre ++ [i])) = nodesF (a + 1) (ks.drop (a + 1)) := filter_all fun n hn => by
      obtain ⟨x, r, rfl, hx, _⟩ := head_F hn
      have : x ≠ a := by omega
      simp [this]
    have h5 : (((nodesT (k.setK pre (s.kids.take i ++ s.kids.drop (i + 1)))).map fun n => a :: n).map (back (a :: pre) i)) = ((nodesT k).map fun n => a :: n).filter fun n => !decide (n.take ((a :: pre).length + 1) = a :: pre ++ [i]) := by
      rw [List.map_map, List.filter_map]
      have e1 : (back (a :: pre) i ∘ fun n => a :: n) = (fun n => a :: n) ∘ back pre i := by
        funext n
        show back (a :: pre) i (a :: n) = a :: back pre i n
        rw [back, if_pos rfl]
      have e2 : ((fun n : Node => !decide (n.take ((a :: pre).length + 1) = a :: pre ++ [i])) ∘ fun n => a :: n) = fun n => !decide (n.take (pre.length + 1) = pre ++ [i]) := by
        funext n
        show (!decide ((a :: n).take ((a :: pre).length + 1) = a :: pre ++ [i])) = _
        rw [List.length_cons, List.take_succ_cons, List.cons_append]
        simp
      rw [e1, e2, ← List.map_map, ih]
    rw [h1, h2, h3, h4, h5]
theorem called_nil (m : Node) (i : Nat) : called m [] i = match m with | [] => some [] | x :: r => if x < i then some (x :: r) else if x = i then none else some ((x - 1) :: r) := by
  unfold called
  cases m with
  | nil => simp
  | cons x r =>
    simp only [List.length_nil, List.take_zero, ne_eq, not_true_eq_false, List.length_cons, false_or, List.getD_cons_zero, List.drop_succ_cons, List.drop_zero, List.nil_append]
    by_cases h : x < i
    · rw [if_pos (.inr h), if_pos h]
    · rw [if_neg (by omega), if_neg h]
      split
      · rfl
      · simp
theorem called_cons (m : Node) (a : Nat) (pre : Node) (i : Nat) : called m (a :: pre) i = match m with | [] => some [] | x :: r => if x = a then (called r pre i).map (x :: ·) else some (x :: r) := by
  cases m with
  | nil => unfold called; simp
  | cons x r =>
    show called (x :: r) (a :: pre) i = if x = a then (called r pre i).map (x :: ·) else some (x :: r)
    by_cases hx : x = a
    · subst hx
      rw [if_pos rfl]
      unfold called
      simp only [List.length_cons, List.take_succ_cons, ne_eq, List.cons.injEq, true_and, List.getD_cons_succ, List.drop_succ_cons, Nat.add_lt_add_iff_right]
      split
      · rfl
      · split
        · rfl
        · rfl
    · rw [if_neg hx]
      unfold called
      rw [if_pos (.inl (by simp [hx]))]
theorem called_back : ∀ (pre : Node) (i : Nat) (m : Node), called (back pre i m) pre i = some m
  | [], i, [] => by rw [back, called_nil]
  | [], i, x :: r => by
    rw [back, called_nil]
    by_cases h : i ≤ x
    · rw [if_pos h]
      show (if x + 1 < i then some ((x + 1) :: r) else if x + 1 = i then none else some ((x + 1 - 1) :: r)) = _
      rw [if_neg (by omega), if_neg (by omega)]; rfl
    · rw [if_neg h]
      show (if x < i then some (x :: r) else _) = _
      rw [if_pos (by omega)]
  | a :: pre, i, [] => by rw [back, called_cons]
  | a :: pre, i, x :: r => by
    rw [back]
    by_cases h : x = a
    · rw [if_pos h, called_cons]
      show (if x = a then (called (back pre i r) pre i).map (x :: ·) else _) = _
      rw [if_pos h, called_back pre i r]; rfl
    · rw [if_neg h, called_cons]
      show (if x = a then _ else some (x :: r)) = _
      rw [if_neg h]
theorem back_called : ∀ (pre : Node) (i : Nat) (n m : Node), called n pre i = some m → back pre i m = n
  | [], i, [], m, h => by rw [called_nil] at h; cases h; rfl
  | [], i, x :: r, m, h => by
    rw [called_nil] at h
    have h : (if x < i then some (x :: r) else if x = i then none else some ((x - 1) :: r)) = some m := h
    split at h
    · cases h
      rename_i hx
      rw [back, if_neg (by omega)]
    · split at h
      · cases h
      · cases h
        rename_i h1 h2
        rw [back, if_pos (by omega), show x - 1 + 1 = x by omega]
  | a :: pre, i, [], m, h => by rw [called_cons] at h; cases h; rfl
  | a :: pre, i, x :: r, m, h => by
    rw [called_cons] at h
    have h : (if x = a then (called r pre i).map (x :: ·) else some (x :: r)) = some m := h
    by_cases hx : x = a
    · rw [if_pos hx] at h
      obtain ⟨m', h1, h2⟩ := Option.map_eq_some_iff.mp h
      subst h2
      rw [back, if_pos hx, back_called pre i r m' h1]
    · rw [if_neg hx] at h
      cases h
      rw [back, if_neg hx]
/-- what is gone, told by the names ahead -/
theorem gone_back (pre : Node) (i : Nat) (F G : List Node) (n : Node) : (match called n pre i with | some m => !decide (m ∈ G) | none => true) = !decide (n ∈ G.map (back pre i)) := by
  cases h : called n pre i with
  | none =>
    have : n ∉ G.map (back pre i) := fun hm => by
      obtain ⟨m, _, rfl⟩ := List.mem_map.mp hm
      rw [called_back] at h; cases h
    rw [decide_eq_false this]; rfl
  | some m =>
    have : m ∈ G ↔ n ∈ G.map (back pre i) := ⟨fun hm => List.mem_map.mpr ⟨m, hm, back_called _ _ _ _ h⟩, fun hm => by
      obtain ⟨m', hm', e⟩ := List.mem_map.mp hm
      rw [← e, called_back] at h
      cases h
      exact hm'⟩
    show (!decide (m ∈ G)) = _
    rw [decide_eq_decide.mpr this]
end Pu
/-! ### kids turned about -/
namespace Pu
open PySem L2
mutual
def mir : Tr → Tr
  | .mk l ks => .mk l (mirs ks)
def mirs : List Tr → List Tr
  | [] => []
  | k :: ks => mirs ks ++ [mir k]
end
theorem mirs_eq : ∀ ks : List Tr, mirs ks = (ks.map mir).reverse
  | [] => by rw [mirs]; rfl
  | k :: ks => by rw [mirs, mirs_eq ks, List.map_cons, List.reverse_cons]
theorem mir_kids (t : Tr) : (mir t).kids = (t.kids.map mir).reverse := by
  obtain ⟨l, ks⟩ := t
  rw [mir, mirs_eq]; rfl
theorem mir_let (t : Tr) : (mir t).let_ = t.let_ := by cases t; rw [mir]; rfl
theorem mir_get {t : Tr} {i : Nat} {k : Tr} (h : t.kids[i]? = some k) : (mir t).kids[t.kids.length - 1 - i]? = some (mir k) := by
  have hi := (List.getElem?_eq_some_iff.mp h).1
  rw [mir_kids, List.getElem?_reverse (by rw [List.length_map]; omega), List.length_map, show t.kids.length - 1 - (t.kids.length - 1 - i) = i by omega, List.getElem?_map, h]
  rfl
mutual
theorem mir_mir : ∀ t : Tr, mir (mir t) = t
  | .mk l ks => by rw [mir, mir, mirs_mirs]
theorem mirs_mirs : ∀ ks : List Tr, mirs (mirs ks) = ks
  | [] => by rw [mirs, mirs]
  | k :: ks => by
    have ih := mirs_mirs ks
    have ik := mir_mir k
    rw [mirs_eq, mirs_eq] at ih
    rw [mirs, mirs_eq, mirs_eq, List.map_append, List.reverse_append, ih, List.map_singleton, List.reverse_singleton, ik]
    rfl
end
mutual
theorem mir_size : ∀ t : Tr, (mir t).size = t.size
  | .mk l ks => by rw [mir, Tr.size, Tr.size, mirs_size]
theorem mirs_size : ∀ ks : List Tr, Tr.sizes (mirs ks) = Tr.sizes ks
  | [] => by rw [mirs]
  | k :: ks => by rw [mirs, sizes_app, mirs_size ks, Tr.sizes, Tr.sizes, Tr.sizes, mir_size k]; omega
end
def mu : Tr → Node → Node
  | _, [] => []
  | t, i :: r => match t.kids[i]? with
    | some k => (t.kids.length - 1 - i) :: mu k r
    | none => i :: r
theorem mu_cons {t : Tr} {i : Nat} {r : Node} {k : Tr} (h : t.kids[i]? = some k) : mu t (i :: r) = (t.kids.length - 1 - i) :: mu k r := by rw [mu, h]
theorem mu_sub : ∀ (n : Node) (t s : Tr), t.sub n = some s → (mir t).sub (mu t n) = some (mir s)
  | [], t, s, h => by cases h; rfl
  | i :: r, t, s, h => by
    obtain ⟨k, hk, hs⟩ := sub_cons h
    rw [mu_cons hk, Tr.sub, mir_get hk]
    exact mu_sub r k s hs
theorem mu_app : ∀ (a b : Node) (t s : Tr), t.sub a = some s → mu t (a ++ b) = mu t a ++ mu s b
  | [], b, t, s, h => by cases h; rfl
  | i :: r, b, t, s, h => by
    obtain ⟨k, hk, hs⟩ := sub_cons h
    rw [List.cons_append, mu_cons hk, mu_cons hk, mu_app r b k s hs]; rfl
theorem mu_len : ∀ (n : Node) (t s : Tr), t.sub n = some s → (mu t n).length = n.length
  | [], t, s, h => rfl
  | i :: r, t, s, h => by
    obtain ⟨k, hk, hs⟩ := sub_cons h
    rw [mu_cons hk, List.length_cons, List.length_cons, mu_len r k s hs]
theorem mu_mu : ∀ (n : Node) (t s : Tr), t.sub n = some s → mu (mir t) (mu t n) = n
  | [], t, s, h => rfl
  | i :: r, t, s, h => by
    obtain ⟨k, hk, hs⟩ := sub_cons h
    have hi := (List.getElem?_eq_some_iff.mp hk).1
    rw [mu_cons hk, mu_cons (mir_get hk), mu_mu r k s hs, mir_kids, List.length_reverse, List.length_map]
    congr 1
    omega
def mY (t : Tr) (y : Node × Tr) : Node × Tr := (mu t y.1, mir y.2)
theorem mu_step {t s : Tr} {d : Bool} {b : Option Node} {n : Node} (hb : BaseOk t b) (hn : t.sub n = some s) (h : StepTo d b n) : StepTo d (b.map (mu t)) (mu t n) := by
  cases b with
  | none => exact fun hd => by rw [h hd]; rfl
  | some m =>
    obtain ⟨r, rfl, h1, h2⟩ := h
    obtain ⟨sm, hm⟩ := hb m rfl
    rw [sub_app, hm] at hn
    have hl := mu_len r sm s hn
    refine ⟨mu sm r, mu_app m r t sm hm, fun z => h1 (List.eq_nil_of_length_eq_zero (by rw [← hl, z]; rfl)), fun hd => by rw [hl]; exact h2 hd⟩
theorem baseOk_mu {t : Tr} {b : Option Node} (hb : BaseOk t b) : BaseOk (mir t) (b.map (mu t)) := fun m h => by
  cases b with
  | none => cases h
  | some n =>
    obtain ⟨s, hs⟩ := hb n rfl
    cases h
    exact ⟨mir s, mu_sub n t s hs⟩
/-- each way goes on, kids turned about -/
theorem mu_ways : ∀ (N : Nat) (t : Tr) (p : Pt) (b : Option Node), numP p ≤ N → BaseOk t b → ∀ w ∈ waysK p (kidsB t b), w.map (mY t) ∈ waysK p (kidsB (mir t) (b.map (mu t)))
  | N, t, [], b, hN, hb, w, hw => by
    rw [waysK, List.mem_singleton] at hw
    subst hw
    rw [waysK]
    exact .head _
  | 0, t, s :: r, b, hN, hb, w, hw => by
    have := num_pos s
    rw [numP] at hN
    omega
  | N + 1, t, s :: r, b, hN, hb, w, hw => by
    have hs1 := num_pos s
    rw [numP] at hN
    rw [waysK, List.mem_flatMap] at hw
    obtain ⟨y, hy, hw⟩ := hw
    obtain ⟨v, hv, rfl⟩ := List.mem_map.mp hw
    obtain ⟨hy, hf⟩ := List.mem_filter.mp hy
    obtain ⟨h1, h2⟩ := (mem_candsB hb).mp hy
    have hbo : BaseOk t (some y.1) := sub_baseOk h1
    have hkids : kidsB t (some y.1) = kidsAt y := kidsB_some h1
    have hkids' : kidsB (mir t) (some (mu t y.1)) = kidsAt (mY t y) := kidsB_some (mu_sub _ _ _ h1)
    rw [List.map_cons, waysK, List.mem_flatMap]
    refine ⟨mY t y, List.mem_filter.mpr ⟨(mem_candsB (baseOk_mu hb)).mpr ⟨mu_sub _ _ _ h1, mu_step hb h1 h2⟩, ?_⟩, List.mem_map.mpr ⟨v.map (mY t), ?_, rfl⟩⟩
    · obtain ⟨g1, g2⟩ := St.fit_iff.mp hf
      refine St.fit_iff.mpr ⟨(mir_let _).trans g1, fun q hq => ?_⟩
      have hq2 := g2 q hq
      have hqn : numP q < s.num := by
        obtain ⟨d, l, ts⟩ := s
        rw [St.num]
        have := numTs_mem (show q ∈ ts from hq)
        show numP q < 1 + numTs ts
        omega
      rw [← hkids, hasB_ways] at hq2
      rw [← hkids', hasB_ways]
      cases hw : waysK q (kidsB t (some y.1)) with
      | nil => rw [hw] at hq2; cases hq2
      | cons w ws =>
        have hm := mu_ways N t q (some y.1) (by omega) hbo w (by rw [hw]; exact .head _)
        have hm : w.map (mY t) ∈ waysK q (kidsB (mir t) (some (mu t y.1))) := hm
        cases h : waysK q (kidsB (mir t) (some (mu t y.1))) with
        | nil => rw [h] at hm; cases hm
        | cons a b => rfl
    · rw [← hkids'] 
      rw [← hkids] at hv
      exact mu_ways N t r (some y.1) (by omega) hbo v hv
theorem mu_finds {t : Tr} {p : Pt} (hp : 1 ≤ p.length) {n : Node} (h : n ∈ findsT p t) : mu t n ∈ findsT p (mir t) := by
  obtain ⟨w, hw, rfl⟩ := mem_fk.mp h
  have hm := mu_ways (numP p) t p none (Nat.le_refl _) (fun m h => by cases h) w hw
  refine mem_fk.mpr ⟨_, hm, ?_⟩
  have hl := waysK_len p _ w hw
  have hne : w ≠ [] := fun z => by rw [z] at hl; simp at hl; omega
  unfold lastN
  rw [List.getLast?_map]
  cases h : w.getLast? with
  | none => rw [List.getLast?_eq_none_iff] at h; exact absurd h hne
  | some y => rfl
theorem finds_le (t : Tr) {p : Pt} (hp : 1 ≤ p.length) : (findsT p t).length ≤ (findsT p (mir t)).length := by
  have hnd : ((findsT p t).map (mu t)).Nodup := by
    unfold List.Nodup
    rw [List.pairwise_map]
    have hn : (findsT p t).Nodup := nodup_setN _
    refine List.Pairwise.imp_of_mem (fun {a b} ha hb hab e => hab ?_) hn
    obtain ⟨sa, hsa⟩ := mem_nodes.mp (findsK_sub (sub_one t) hp a ha)
    obtain ⟨sb, hsb⟩ := mem_nodes.mp (findsK_sub (sub_one t) hp b hb)
    rw [← mu_mu a t sa hsa, ← mu_mu b t sb hsb, e]
  have := nodup_len hnd fun x hx => by
    obtain ⟨n, hn, rfl⟩ := List.mem_map.mp hx
    exact mu_finds hp hn
  rw [List.length_map] at this
  exact this
theorem finds_mir (t : Tr) {p : Pt} (hp : 1 ≤ p.length) : (findsT p (mir t)).length = (findsT p t).length := by
  have h1 := finds_le t hp
  have h2 := finds_le (mir t) hp
  rw [mir_mir] at h2
  omega
/-! no way twice -/
theorem nodup_of_map {α β : Type} {f : α → β} {xs : List α} (h : (xs.map f).Nodup) : xs.Nodup := by
  unfold List.Nodup at h
  rw [List.pairwise_map] at h
  exact h.imp fun hab e => hab (congrArg f e)
theorem nodup_len2 {α : Type} {xs ys : List α} (h : xs.Nodup) (hs : ∀ x ∈ xs, x ∈ ys) : xs.length ≤ ys.length := by
  haveI : DecidableEq α := fun a b => Classical.propDecidable (a = b)
  exact nodup_len h hs
theorem cands_nodup {t : Tr} {d : Bool} {b : Option Node} (hb : BaseOk t b) : (cands d (kidsB t b)).Nodup := by
  have key : ∀ y : Node × Tr, (allT y.1 y.2).Nodup := fun y => by
    have h := allT_nodup y.2 y.1
    exact nodup_of_map h
  cases b with
  | none =>
    show (cands d [([], t)]).Nodup
    unfold cands
    cases d with
    | false => simp
    | true =>
      have := key ([], t)
      simpa using this
  | some m =>
    obtain ⟨s, hs⟩ := hb m rfl
    rw [kidsB_some hs]
    have h := key (m, s)
    rw [allT_eq (m, s), List.nodup_cons] at h
    unfold cands
    cases d with
    | true => exact h.2
    | false =>
      show (kidsAt (m, s)).Nodup
      have hk : ∀ (ks : List Tr) (i : Nat), (kidsFrom m i ks).Nodup := by
        intro ks
        induction ks with
        | nil => intro i; exact List.nodup_nil
        | cons k ks ih =>
          intro i
          rw [kidsFrom, List.nodup_cons]
          refine ⟨fun hm => ?_, ih (i + 1)⟩
          obtain ⟨j, hj, e⟩ := List.mem_iff_getElem.mp hm
          have := kidsFrom_get m ks (i + 1) j
          rw [List.getElem?_eq_getElem hj, e] at this
          cases hk : ks[j]? with
          | none => rw [hk] at this; cases this
          | some k' =>
            rw [hk] at this
            have := congrArg Prod.fst (Option.some.inj this)
            have this : m ++ [i] = m ++ [i + 1 + j] := this
            simp at this
            omega
      exact hk s.kids 0
theorem ways_nodup : ∀ (p : Pt) (t : Tr) (b : Option Node), BaseOk t b → (waysK p (kidsB t b)).Nodup
  | [], t, b, _ => by rw [waysK]; simp
  | s :: r, t, b, hb => by
    rw [waysK]
    have hc : ((cands s.deep (kidsB t b)).filter s.fit).Nodup := (cands_nodup (d := s.deep) hb).filter s.fit
    have hm : ∀ y ∈ (cands s.deep (kidsB t b)).filter s.fit, t.sub y.1 = some y.2 := fun y hy => ((mem_candsB hb).mp (List.mem_filter.mp hy).1).1
    generalize (cands s.deep (kidsB t b)).filter s.fit = xs at hc hm
    induction xs with
    | nil => exact List.nodup_nil
    | cons y xs ih =>
      rw [List.nodup_cons] at hc
      rw [List.flatMap_cons, List.nodup_append]
      have hy := hm y (.head _)
      have hw := ways_nodup r t (some y.1) (sub_baseOk hy)
      rw [kidsB_some hy] at hw
      refine ⟨List.Pairwise.map _ (fun a b hab e => hab (List.cons.inj e).2) hw, ih hc.2 fun z hz => hm z (.tail _ hz), fun a ha b hb' e => ?_⟩
      obtain ⟨u, _, rfl⟩ := List.mem_map.mp ha
      obtain ⟨z, hz, hb'⟩ := List.mem_flatMap.mp hb'
      obtain ⟨v, _, rfl⟩ := List.mem_map.mp hb'
      have := (List.cons.inj e).1
      subst this
      exact hc.1 hz
theorem ways_le (t : Tr) (p : Pt) : (waysK p [([], t)]).length ≤ (waysK p [([], mir t)]).length := by
  have hsub : ∀ w ∈ waysK p [([], t)], ∀ y ∈ w, t.sub y.1 = some y.2 := waysK_sub p _ (sub_one t)
  have hnd : ((waysK p [([], t)]).map fun w => w.map (mY t)).Nodup := by
    unfold List.Nodup
    rw [List.pairwise_map]
    have hn : (waysK p [([], t)]).Nodup := ways_nodup p t none fun m h => by cases h
    refine List.Pairwise.imp_of_mem (fun {a b} ha hb hab e => hab ?_) hn
    have back : ∀ w ∈ waysK p [([], t)], (w.map (mY t)).map (mY (mir t)) = w := fun w hw => by
      rw [List.map_map]
      have : w.map (mY (mir t) ∘ mY t) = w.map id := List.map_congr_left fun y hy => by
        show (mu (mir t) (mu t y.1), mir (mir y.2)) = y
        rw [mu_mu _ _ _ (hsub w hw y hy), mir_mir]
      rw [this, List.map_id]
    rw [← back a ha, ← back b hb, e]
  have := nodup_len2 hnd fun x hx => by
    obtain ⟨w, hw, rfl⟩ := List.mem_map.mp hx
    exact mu_ways (numP p) t p none (Nat.le_refl _) (fun m h => by cases h) w hw
  rw [List.length_map] at this
  exact this
theorem ways_mir (t : Tr) (p : Pt) : (waysK p [([], mir t)]).length = (waysK p [([], t)]).length := by
  have h1 := ways_le t p
  have h2 := ways_le (mir t) p
  rw [mir_mir] at h2
  omega
/-! tests left out -/
def bareP (p : Pt) : Pt := p.map fun s => .mk s.deep s.let_ []
theorem bare_ways : ∀ (p : Pt) (kids : List (Node × Tr)), ∀ w ∈ waysK p kids, w ∈ waysK (bareP p) kids
  | [], kids, w, hw => hw
  | s :: r, kids, w, hw => by
    rw [waysK, List.mem_flatMap] at hw
    obtain ⟨y, hy, hw⟩ := hw
    obtain ⟨v, hv, rfl⟩ := List.mem_map.mp hw
    obtain ⟨hy, hf⟩ := List.mem_filter.mp hy
    show y :: v ∈ waysK (.mk s.deep s.let_ [] :: bareP r) kids
    rw [waysK, List.mem_flatMap]
    exact ⟨y, List.mem_filter.mpr ⟨hy, St.fit_iff.mpr ⟨(St.fit_iff.mp hf).1, fun q hq => by cases hq⟩⟩, List.mem_map.mpr ⟨v, bare_ways r _ v hv, rfl⟩⟩
theorem bare_finds {p : Pt} {t : Tr} {n : Node} (h : n ∈ findsT p t) : n ∈ findsT (bareP p) t := by
  obtain ⟨w, hw, e⟩ := mem_fk.mp h
  exact mem_fk.mpr ⟨w, bare_ways p _ w hw, e⟩
theorem bare_num : ∀ p : Pt, numP (bareP p) = p.length
  | [] => rfl
  | s :: r => by
    show numP (.mk s.deep s.let_ [] :: bareP r) = _
    rw [numP, bare_num r, St.num, numTs, List.length_cons]; omega
theorem bare_good {L K : Nat} {p : Pt} (h : goodP L K p) : goodP L K (bareP p) := by
  obtain ⟨h1, h2, h3⟩ := goodP_iff.mp h
  refine goodP_iff.mpr ⟨by unfold bareP; rw [List.length_map]; exact h1, by unfold bareP; rw [List.length_map]; exact h2, fun s hs => ?_⟩
  obtain ⟨s0, hs0, rfl⟩ := List.mem_map.mp hs
  exact good_iff.mpr ⟨(good_iff.mp (h3 s0 hs0)).1, Nat.zero_le _, fun q hq => by cases hq⟩
end Pu
/-! printed by gen.py -/
namespace Pu.k14
open PySem L2
def whiles : Nat := 1000
abbrev pr (i : Nat) (x : Str) : Nat × Str := (i, x)
def top (i : Nat) : Stmt := PySem.Challenge.pw_treefinds_k14_by_finds.main.body.getD i (.Pass ⟨0, 0, 0, 0⟩)
def b_nodes : List S :=
   [.own 1 (.lst [.tup []]),
    .loop (.tup [.name 2, .name 3]) .enum [.ix (.var 0) (.cst (.int 1))]
      [.ext 1 (.comp (.bin .add (.tup [.var 2]) (.var 4)) (.name 4) .plain [.call 0 [.var 3]] [] [4])]
      [2, 3],
    .frz 1 (.ret (.bi .tuple [.var 1]))]
def n_nodes : List Str := ["tree", "found", "k", "kid", "node"]
def f_nodes : Fd := ⟨1, 5, false, false, none, b_nodes⟩
def d_nodes : Df := ⟨"nodes", top 4, n_nodes, f_nodes⟩
def b_tree_at : List S :=
   [.loop (.name 2) .plain [.var 1]
      [.iff (.not (.chn .le .lt (.cst (.int 0)) (.var 2) (.bi .len [.ix (.var 0) (.cst (.int 1))])))
         [.raise "NoNode"]
         [],
       .set 0 (.ix (.ix (.var 0) (.cst (.int 1))) (.var 2))]
      [2],
    .ret (.var 0)]
def n_tree_at : List Str := ["tree", "node", "k"]
def f_tree_at : Fd := ⟨2, 3, false, false, none, b_tree_at⟩
def d_tree_at : Df := ⟨"tree_at", top 5, n_tree_at, f_tree_at⟩
def b_kids_of : List S :=
   [.ret (.comp (.bin .add (.var 1) (.tup [.var 2])) (.name 2) .range1 [.bi .len [.ix (.call 1 [.var 0, .var 1]) (.cst (.int 1))]] [] [2])]
def n_kids_of : List Str := ["tree", "node", "k"]
def f_kids_of : Fd := ⟨2, 3, false, false, none, b_kids_of⟩
def d_kids_of : Df := ⟨"kids_of", top 6, n_kids_of, f_kids_of⟩
def b_all_below : List S :=
   [.ret (.comp (.bin .add (.var 1) (.var 2)) (.name 2) .plain [.call 0 [.call 1 [.var 0, .var 1]]] [.cmp .ne (.var 2) (.tup [])] [2])]
def n_all_below : List Str := ["tree", "node", "other"]
def f_all_below : Fd := ⟨2, 3, false, false, none, b_all_below⟩
def d_all_below : Df := ⟨"all_below", top 7, n_all_below, f_all_below⟩
def b_places : List S :=
   [.iff (.isc false (.var 2) (.none))
      [.ret (.ite (.cmp .eq (.ix (.var 0) (.cst (.int 0))) (.cst (.str "in"))) (.lst [.tup []]) (.bi .list [.call 0 [.var 1]]))]
      [],
    .ret (.ite (.cmp .eq (.ix (.var 0) (.cst (.int 0))) (.cst (.str "in"))) (.call 2 [.var 1, .var 2]) (.call 3 [.var 1, .var 2]))]
def n_places : List Str := ["step", "tree", "node"]
def f_places : Fd := ⟨3, 3, false, false, none, b_places⟩
def d_places : Df := ⟨"places", top 9, n_places, f_places⟩
def b_by_step : List S :=
   [.own 3 (.lst []),
    .loop (.name 4) .plain [.call 4 [.var 0, .var 1, .var 2]]
      [.iff (.and [.cmp .eq (.ix (.call 1 [.var 1, .var 4]) (.cst (.int 0))) (.ix (.var 0) (.cst (.int 1))), .bi .all [.comp (.cmp .ne (.call 6 [.var 5, .var 1, .var 4]) (.lst [])) (.name 5) .plain [.ix (.var 0) (.cst (.int 2))] [] [5]]])
         [.app 3 (.var 4)]
         []]
      [4],
    .frz 3 (.ret (.var 3))]
def n_by_step : List Str := ["step", "tree", "node", "found", "place", "test"]
def f_by_step : Fd := ⟨3, 6, false, false, none, b_by_step⟩
def d_by_step : Df := ⟨"by_step", top 10, n_by_step, f_by_step⟩
def b_ways_from : List S :=
   [.set 3 (.lst [.tup []]),
    .loop (.name 4) .plain [.var 0]
      [.own 5 (.lst []),
       .loop (.name 6) .plain [.var 3]
         [.set 7 (.ite (.var 6) (.ix (.var 6) (.neg 1)) (.var 2)),
          .ext 5 (.comp (.bin .add (.var 6) (.tup [.var 8])) (.name 8) .plain [.call 5 [.var 4, .var 1, .var 7]] [] [8])]
         [6, 7],
       .frz 5 (.set 3 (.var 5))]
      [4, 5, 6, 7],
    .ret (.var 3)]
def n_ways_from : List Str := ["path", "tree", "node", "rows", "step", "longer", "row", "here", "place"]
def f_ways_from : Fd := ⟨3, 9, false, false, none, b_ways_from⟩
def d_ways_from : Df := ⟨"ways_from", top 11, n_ways_from, f_ways_from⟩
def b_finds : List S :=
   [.ret (.bi .tuple [.bi .sset [.comp (.ix (.var 2) (.neg 1)) (.name 2) .plain [.call 6 [.var 0, .var 1, .cst (.none)]] [] [2]]])]
def n_finds : List Str := ["path", "tree", "row"]
def f_finds : Fd := ⟨2, 3, false, false, none, b_finds⟩
def d_finds : Df := ⟨"finds", top 12, n_finds, f_finds⟩
def b_plain_paths : List S :=
   [.own 0 (.lst []),
    .loop (.name 1) .plain [.glob "WAYS" (.tuple [.str "in", .str "deep"])]
      [.ext 0 (.comp (.tup [.var 1, .var 2, .tup []]) (.name 2) .plain [.glob "PATH_LETTERS" (.str "abc")] [] [2])]
      [1],
    .frz 0 (.own 3 (.comp (.tup [.var 4]) (.name 4) .plain [.var 0] [] [4])),
    .frz 0 (.loop (.name 5) .plain [.var 0]
      [.frz 0 (.ext 3 (.comp (.tup [.var 5, .var 6]) (.name 6) .plain [.var 0] [] [6]))]
      [5]),
    .frz 3 (.ret (.bi .tuple [.bi .sorted [.var 3]]))]
def n_plain_paths : List Str := ["steps", "way", "letter", "found", "step", "first", "second"]
def f_plain_paths : Fd := ⟨0, 7, false, false, none, b_plain_paths⟩
def d_plain_paths : Df := ⟨"plain_paths", top 16, n_plain_paths, f_plain_paths⟩
def b_by_finds : List S :=
   [.ret (.bi .tuple [.comp (.var 2) (.name 2) .plain [.call0 8] [.cmp .eq (.call 7 [.var 2, .var 0]) (.var 1)] [2]])]
def n_by_finds : List Str := ["tree", "some", "path"]
def f_by_finds : Fd := ⟨2, 3, false, false, none, b_by_finds⟩
def d_by_finds : Df := ⟨"by_finds", top 17, n_by_finds, f_by_finds⟩
def b_told_apart : List S :=
   [.ret (.bi .lset [.comp (.bi .tuple [.comp (.call 7 [.var 2, .var 1]) (.name 1) .plain [.var 0] [] [1]]) (.name 2) .plain [.call0 8] [] [2]])]
def n_told_apart : List Str := ["trees", "tree", "path"]
def f_told_apart : Fd := ⟨1, 3, false, false, none, b_told_apart⟩
def d_told_apart : Df := ⟨"told_apart", top 18, n_told_apart, f_told_apart⟩
def b_law_mix : List S :=
   [.set 3 (.bin .mod (.bin .mul (.var 0) (.cst (.int 48271))) (.var 1)),
    .ret (.bin .mod (.bin .mod (.bin .mul (.var 3) (.bin .add (.var 3) (.cst (.int 7)))) (.var 1)) (.var 2))]
def n_law_mix : List Str := ["_law_cell_here", "_law_prime", "_law_many", "_law_blend"]
def f_law_mix : Fd := ⟨3, 4, false, false, none, b_law_mix⟩
def d_law_mix : Df := ⟨"_law_mix", top 21, n_law_mix, f_law_mix⟩
def b_law_same : List S :=
   [.iff (.isi (.var 1) [.tuple])
      [.iff (.or [.not (.isi (.var 0) [.tuple]), .cmp .ne (.bi .len [.var 0]) (.bi .len [.var 1])])
         [.ret (.cst (.bool false))]
         [],
       .ret (.bi .all [.comp (.call 12 [.var 2, .var 3]) (.tup [.name 2, .name 3]) .zip [.var 0, .var 1] [] [2, 3]])]
      [],
    .iff (.isc false (.var 1) (.none))
      [.ret (.isc false (.var 0) (.none))]
      [],
    .iff (.or [.isi (.var 1) [.bool], .isi (.var 0) [.bool]])
      [.ret (.and [.isi (.var 1) [.bool], .isi (.var 0) [.bool], .cmp .eq (.var 0) (.var 1)])]
      [],
    .ret (.and [.isi (.var 0) [.int, .str], .cmp .eq (.var 0) (.var 1)])]
def n_law_same : List Str := ["_law_found", "_law_due", "_law_one", "_law_other"]
def f_law_same : Fd := ⟨2, 4, false, false, none, b_law_same⟩
def d_law_same : Df := ⟨"_law_same", top 22, n_law_same, f_law_same⟩
def b_law_tree : List S :=
   [.set 2 (.ix (.cst (.str "abcdab")) (.call 11 [.var 0, .cst (.int 9973), .cst (.int 6)])),
    .par 3 4 true false (.lst []) (.bin .sub (.var 1) (.cst (.int 1))),
    .whl whiles (.cmp .gt (.var 4) (.cst (.int 0)))
      [.set 5 (.bin .add (.var 0) (.bin .mul (.cst (.int 13)) (.var 4))),
       .set 6 (.bin .add (.cst (.int 1)) (.call 11 [.var 5, .cst (.int 9967), .var 4])),
       .iff (.cmp .eq (.call 11 [.var 5, .cst (.int 9949), .cst (.int 3)]) (.cst (.int 0)))
         [.set 6 (.var 4)]
         [],
       .app 3 (.call 13 [.bin .add (.var 5) (.cst (.int 7)), .var 6]),
       .set 4 (.bin .sub (.var 4) (.var 6))]
      [5, 6],
    .frz 3 (.ret (.tup [.var 2, .bi .tuple [.var 3]]))]
def n_law_tree : List Str := ["_law_cell_here", "_law_many", "_law_letter", "_law_kids", "_law_left", "_law_seed", "_law_size"]
def f_law_tree : Fd := ⟨2, 7, false, false, none, b_law_tree⟩
def d_law_tree : Df := ⟨"_law_tree", top 23, n_law_tree, f_law_tree⟩
def b_law_nodes : List S :=
   [.own 2 (.lst [.tup [.var 1, .var 0]]),
    .loop (.tup [.name 3, .name 4]) .enum [.ix (.var 0) (.cst (.int 1))]
      [.ext 2 (.call 14 [.var 4, .bin .add (.var 1) (.tup [.var 3])])]
      [3, 4],
    .frz 2 (.ret (.var 2))]
def n_law_nodes : List Str := ["_law_tree_here", "_law_node", "_law_found", "_law_k", "_law_kid"]
def f_law_nodes : Fd := ⟨2, 5, false, false, none, b_law_nodes⟩
def d_law_nodes : Df := ⟨"_law_nodes", top 26, n_law_nodes, f_law_nodes⟩
def b_law_ways : List S :=
   [.unp (.tup [.name 2, .name 3, .name 4]) (.ix (.var 0) (.cst (.int 0))),
    .own 5 (.lst []),
    .loop (.tup [.name 6, .name 7]) .plain [.var 1]
      [.ext 5 (.ite (.cmp .eq (.var 2) (.cst (.str "deep"))) (.call 14 [.var 7, .var 6]) (.lst [.tup [.var 6, .var 7]]))]
      [6, 7],
    .own 8 (.lst []),
    .frz 5 (.loop (.tup [.name 6, .name 7]) .plain [.var 5]
      [.set 9 (.comp (.tup [.bin .add (.var 6) (.tup [.var 10]), .var 11]) (.tup [.name 10, .name 11]) .enum [.ix (.var 7) (.cst (.int 1))] [] [10, 11]),
       .iff (.and [.cmp .eq (.ix (.var 7) (.cst (.int 0))) (.var 3), .cmp .eq (.comp (.var 12) (.name 12) .plain [.var 4] [.cmp .eq (.call 15 [.var 12, .var 9]) (.lst [])] [12]) (.lst [])])
         [.iff (.cmp .eq (.bi .len [.var 0]) (.cst (.int 1)))
            [.app 8 (.tup [.var 6])]
            [.ext 8 (.comp (.bin .add (.tup [.var 6]) (.var 13)) (.name 13) .plain [.call 15 [.sl (.var 0) [.cst (.int 1)] [], .var 9]] [] [13])]]
         []]
      [6, 7, 9]),
    .frz 8 (.ret (.var 8))]
def n_law_ways : List Str := ["_law_path_here", "_law_kids", "_law_way", "_law_letter", "_law_tests", "_law_some", "_law_node", "_law_tree_here", "_law_found", "_law_here", "_law_k", "_law_kid", "_law_test", "_law_row"]
def f_law_ways : Fd := ⟨2, 14, false, false, none, b_law_ways⟩
def d_law_ways : Df := ⟨"_law_ways", top 27, n_law_ways, f_law_ways⟩
def b_law_finds : List S :=
   [.ret (.bi .tuple [.bi .sset [.comp (.ix (.var 2) (.neg 1)) (.name 2) .plain [.call 15 [.var 0, .lst [.tup [.tup [], .var 1]]]] [] [2]]])]
def n_law_finds : List Str := ["_law_path_here", "_law_tree_here", "_law_row"]
def f_law_finds : Fd := ⟨2, 3, false, false, none, b_law_finds⟩
def d_law_finds : Df := ⟨"_law_finds", top 28, n_law_finds, f_law_finds⟩
def b_law_all : List S :=
   [.own 0 (.lst []),
    .loop (.name 1) .plain [.tup [.cst (.str "in"), .cst (.str "deep")]]
      [.loop (.name 2) .plain [.cst (.str "abc")]
         [.app 0 (.tup [.var 1, .var 2, .tup []])]
         [2]]
      [1, 2],
    .frz 0 (.own 3 (.comp (.tup [.var 4]) (.name 4) .plain [.var 0] [] [4])),
    .frz 0 (.loop (.name 5) .plain [.var 0]
      [.frz 0 (.loop (.name 6) .plain [.var 0]
         [.app 3 (.tup [.var 5, .var 6])]
         [6])]
      [5, 6]),
    .frz 3 (.ret (.bi .sorted [.var 3]))]
def n_law_all : List Str := ["_law_steps_here", "_law_way", "_law_letter", "_law_found", "_law_step", "_law_first", "_law_second"]
def f_law_all : Fd := ⟨0, 7, false, false, none, b_law_all⟩
def d_law_all : Df := ⟨"_law_all", top 29, n_law_all, f_law_all⟩
def b_law : List S :=
   [.set 1 (.call0 17),
    .iff (.not (.call 12 [.call0 8, .bi .tuple [.var 1]]))
      [.ret (.cst (.bool false))]
      [],
    .loop (.name 2) .range1 [.cst (.int 6)]
      [.set 3 (.bin .add (.cell 0 (.var 2)) (.bin .mul (.cst (.int 3)) (.var 2))),
       .set 4 (.call 13 [.var 3, .bin .add (.cst (.int 1)) (.call 11 [.var 3, .cst (.int 9833), .cst (.int 10)])]),
       .dct 5 (.comp (.tup [.var 6, .call 16 [.var 6, .var 4]]) (.name 6) .plain [.var 1] [] [6]),
       .set 7 (.dix 5 (.ix (.var 1) (.call 11 [.bin .add (.cell 0 (.cst (.int 6))) (.var 2), .cst (.int 9817), .cst (.int 42)]))),
       .set 8 (.bi .tuple [.comp (.var 9) (.tup [.name 9, .name 10]) .plain [.call 14 [.var 4, .tup []]] [.cmp .eq (.call 11 [.bin .add (.var 3) (.bi .len [.var 9]), .cst (.int 9811), .cst (.int 2)]) (.cst (.int 0))] [9, 10]]),
       .loop (.name 11) .plain [.tup [.var 7, .bi .tuple [.bi .sorted [.var 8]], .tup []]]
         [.iff (.not (.call 12 [.call 9 [.var 4, .var 11], .bi .tuple [.comp (.var 6) (.name 6) .plain [.var 1] [.cmp .eq (.dix 5 (.var 6)) (.var 11)] [6]]]))
            [.ret (.cst (.bool false))]
            []]
         [11],
       .set 12 (.bi .tuple [.comp (.call 13 [.bin .add (.bin .add (.cell 0 (.cst (.int 7))) (.bin .mul (.cst (.int 11)) (.var 13))) (.var 2), .cst (.int 10)]) (.name 13) .range1 [.bin .add (.cst (.int 1)) (.bin .mod (.var 2) (.cst (.int 3)))] [] [13]]),
       .set 14 (.comp (.bi .tuple [.comp (.call 16 [.var 6, .var 15]) (.name 15) .plain [.var 12] [] [15]]) (.name 6) .plain [.var 1] [] [6]),
       .iff (.not (.call 12 [.call 10 [.var 12], .bi .lset [.var 14]]))
         [.ret (.cst (.bool false))]
         []]
      [2, 3, 4, 5, 7, 8, 11, 12, 14],
    .ret (.and [.cmp .eq (.call 10 [.tup [.tup [.cst (.str "d"), .tup []]]]) (.cst (.int 1)), .cmp .eq (.bi .len [.call 9 [.tup [.cst (.str "a"), .tup []], .tup [.tup []]]]) (.cst (.int 2))])]
def n_law : List Str := ["_law_script", "_law_every", "_law_k", "_law_cell_here", "_law_tree_here", "_law_some", "_law_path_here", "_law_goal", "_law_drawn", "_law_node", "_law_part", "_law_due", "_law_row", "_law_j", "_law_rows", "_law_one"]
def f_law : Fd := ⟨1, 16, false, false, none, b_law⟩
def d_law : Df := ⟨"law", top 30, n_law, f_law⟩
def defs : List Df := [d_nodes, d_tree_at, d_kids_of, d_all_below, d_places, d_by_step, d_ways_from, d_finds, d_plain_paths, d_by_finds, d_told_apart, d_law_mix, d_law_same, d_law_tree, d_law_nodes, d_law_ways, d_law_finds, d_law_all]
def tab : Tab where
  bl := ["all", "bool", "dict", "enumerate", "int", "isinstance", "len", "list", "range", "set", "sorted", "str", "tuple", "zip"]
  fns := [pr 0 "nodes", pr 1 "tree_at", pr 2 "kids_of", pr 3 "all_below", pr 4 "places", pr 5 "by_step", pr 6 "ways_from", pr 7 "finds", pr 8 "plain_paths", pr 9 "by_finds", pr 10 "told_apart", pr 11 "_law_mix", pr 12 "_law_same", pr 13 "_law_tree", pr 14 "_law_nodes", pr 15 "_law_ways", pr 16 "_law_finds", pr 17 "_law_all"]
  ios := []
  gls := [("PATH_LETTERS", .str "abc"), ("WAYS", .tuple [.str "in", .str "deep"])]
  exs := ["NoNode"]
  cel := some "_law_cell"
def tf : Nat → Option Fd
  | 0 => some f_nodes
  | 1 => some f_tree_at
  | 2 => some f_kids_of
  | 3 => some f_all_below
  | 4 => some f_places
  | 5 => some f_by_step
  | 6 => some f_ways_from
  | 7 => some f_finds
  | 8 => some f_plain_paths
  | 9 => some f_by_finds
  | 10 => some f_told_apart
  | 11 => some f_law_mix
  | 12 => some f_law_same
  | 13 => some f_law_tree
  | 14 => some f_law_nodes
  | 15 => some f_law_ways
  | 16 => some f_law_finds
  | 17 => some f_law_all
  | _ => none

theorem ok_nodes : dfB tab d_nodes = true := by decide +kernel
theorem ok_tree_at : dfB tab d_tree_at = true := by decide +kernel
theorem ok_kids_of : dfB tab d_kids_of = true := by decide +kernel
theorem ok_all_below : dfB tab d_all_below = true := by decide +kernel
theorem ok_places : dfB tab d_places = true := by decide +kernel
theorem ok_by_step : dfB tab d_by_step = true := by decide +kernel
theorem ok_ways_from : dfB tab d_ways_from = true := by decide +kernel
theorem ok_finds : dfB tab d_finds = true := by decide +kernel
theorem ok_plain_paths : dfB tab d_plain_paths = true := by decide +kernel
theorem ok_by_finds : dfB tab d_by_finds = true := by decide +kernel
theorem ok_told_apart : dfB tab d_told_apart = true := by decide +kernel
theorem ok_law_mix : dfB tab d_law_mix = true := by decide +kernel
theorem ok_law_same : dfB tab d_law_same = true := by decide +kernel
theorem ok_law_tree : dfB tab d_law_tree = true := by decide +kernel
theorem ok_law_nodes : dfB tab d_law_nodes = true := by decide +kernel
theorem ok_law_ways : dfB tab d_law_ways = true := by decide +kernel
theorem ok_law_finds : dfB tab d_law_finds = true := by decide +kernel
theorem ok_law_all : dfB tab d_law_all = true := by decide +kernel
theorem ok_law : dfB tab d_law = true := by decide +kernel
end Pu.k14
/-! paths as the law draws them, typed -/
namespace Pu.k14
open PySem L2
theorem r_mix (k : Nat) (args : List D) : run tf (k + 1) 11 args = runB (run tf k) f_law_mix args := rfl
theorem mix_ev (k : Nat) (c p m : Int) (h0 : 0 < p) (h1 : p < 2 ^ 60) (h2 : 0 < m) : run tf (k + 1) 11 [.int c, .int p, .int m] = .ok (.int (mixI c p m)) := by
  rw [r_mix]
  have s1 : small64 48271 = true := by decide
  have s2 : ∀ x : Int, small64 (x % p) = true := fun x => small_mod h0 h1
  simp [runB_eq, f_law_mix, b_law_mix, binD, mulD, modD, addD, s1, s2, h0, h2, mixI]
end Pu.k14
/-! trees as the law draws them -/
namespace Pu.k14
open PySem L2
theorem r_tree (k : Nat) (args : List D) : run tf (k + 1) 13 args = runB (run tf k) f_law_tree args := rfl
theorem s_abcdab : (("abcdab" : Str)) = ⟨#[97, 98, 99, 100, 97, 98]⟩ := by decide +kernel
theorem s_ta : (("a" : Str)) = ⟨#[97]⟩ := by decide +kernel
theorem s_tb : (("b" : Str)) = ⟨#[98]⟩ := by decide +kernel
theorem s_tc : (("c" : Str)) = ⟨#[99]⟩ := by decide +kernel
theorem s_td : (("d" : Str)) = ⟨#[100]⟩ := by decide +kernel
theorem let_atT {i : Int} (h0 : 0 ≤ i) (h1 : i < 6) : ∃ l : Str, ixD (.str "abcdab") (.int i) = .ok (.str l) ∧ letT l := by
  have : i = 0 ∨ i = 1 ∨ i = 2 ∨ i = 3 ∨ i = 4 ∨ i = 5 := by omega
  unfold letT
  rw [s_abcdab, s_ta, s_tb, s_tc, s_td]
  rcases this with rfl | rfl | rfl | rfl | rfl | rfl
  · exact ⟨⟨#[97]⟩, rfl, .inl rfl⟩
  · exact ⟨⟨#[98]⟩, rfl, .inr (.inl rfl)⟩
  · exact ⟨⟨#[99]⟩, rfl, .inr (.inr (.inl rfl))⟩
  · exact ⟨⟨#[100]⟩, rfl, .inr (.inr (.inr rfl))⟩
  · exact ⟨⟨#[97]⟩, rfl, .inl rfl⟩
  · exact ⟨⟨#[98]⟩, rfl, .inr (.inl rfl)⟩
theorem tree_gen : ∀ (n : Nat) (c m : Int) (k : Nat), 1 ≤ m → m ≤ n → n ≤ 900 → n ≤ k → ∃ t : Tr, run tf (k + 1) 13 [.int c, .int m] = .ok t.enc ∧ (t.size : Int) = m ∧ t.ok
  | 0, c, m, k, h1, h2, _, _ => by omega
  | n + 1, c, m, k, h1, h2, h9, hk => by
    obtain ⟨k, rfl⟩ : ∃ k', k = k' + 1 := ⟨k - 1, by omega⟩
    have m1 := mix_ev k c 9973 6 (by decide) (by decide) (by decide)
    have b1 := mixI_lt (c := c) (p := 9973) (m := 6) (by decide)
    generalize mixI c 9973 6 = w at m1 b1
    obtain ⟨l, el, hl⟩ := let_atT b1.1 b1.2
    obtain ⟨ρ', ew, ks, ei, hz, ho⟩ := whl_dn (test := tstW (run tf (k + 1)) (.cmp .gt (.var 4) (.cst (.int 0))))
      (body := evSs (run tf (k + 1)) [.set 5 (.bin .add (.var 0) (.bin .mul (.cst (.int 13)) (.var 4))),
       .set 6 (.bin .add (.cst (.int 1)) (.call 11 [.var 5, .cst (.int 9967), .var 4])),
       .iff (.cmp .eq (.call 11 [.var 5, .cst (.int 9949), .cst (.int 3)]) (.cst (.int 0)))
         [.set 6 (.var 4)]
         [],
       .app 3 (.call 13 [.bin .add (.var 5) (.cst (.int 7)), .var 6]),
       .set 4 (.bin .sub (.var 4) (.var 6))]) (kill := [5, 6])
      (I := fun left ρ => ∃ ks : List Tr, ρ = [.val (.int c), .val (.int m), .val (.str l), .own (ks.map Tr.enc), .val (.int left), .no, .no] ∧ (Tr.sizes ks : Int) + left = m - 1 ∧ ∀ x ∈ ks, x.ok)
      (fun left ρ ⟨ks, e, hz, ho⟩ => by
        subst e
        refine ⟨by simp [tstW], fun hp => ?_⟩
        have hp' : (0 : Int) < (left : Int) := by omega
        have s13 : small64 13 = true := by decide
        have m2 := mix_ev k (c + 13 * left) 9967 left (by decide) (by decide) hp'
        have b2 := mixI_lt (c := c + 13 * left) (p := 9967) hp'
        have m3 := mix_ev k (c + 13 * left) 9949 3 (by decide) (by decide) (by decide)
        generalize mixI (c + 13 * left) 9967 left = w2 at m2 b2
        generalize mixI (c + 13 * left) 9949 3 = w3 at m3
        have hlen : ks.length < 16777216 := by have := len_sizes ks; omega
        by_cases hw : w3 = 0
        · obtain ⟨t, et, es, ot⟩ := tree_gen n (c + 13 * left + 7) left k (by omega) (by omega) (by omega) (by omega)
          refine ⟨0, [.val (.int c), .val (.int m), .val (.str l), .own ((ks ++ [t]).map Tr.enc), .val (.int ((0 : Nat) : Int)), .val (.int (c + 13 * left)), .val (.int left)], hp, by simp [bin_mul_i (.inl s13), m2, m3, hw, et, hlen], ks ++ [t], by simp, ?_, ?_⟩
          · rw [sizes_app, Tr.sizes, Tr.sizes]; omega
          · intro x hx
            rcases List.mem_append.mp hx with h | h
            · exact ho x h
            · rw [List.mem_singleton.mp h]; exact ot
        · obtain ⟨t, et, es, ot⟩ := tree_gen n (c + 13 * left + 7) (1 + w2) k (by omega) (by omega) (by omega) (by omega)
          refine ⟨(left - (1 + w2) : Int).toNat, [.val (.int c), .val (.int m), .val (.str l), .own ((ks ++ [t]).map Tr.enc), .val (.int (left - (1 + w2))), .val (.int (c + 13 * left)), .val (.int (1 + w2))], by omega, by simp [bin_mul_i (.inl s13), m2, m3, hw, et, hlen], ks ++ [t], by
            have : (((left - (1 + w2) : Int).toNat : Nat) : Int) = left - (1 + w2) := by omega
            rw [this]; simp, ?_, ?_⟩
          · rw [sizes_app, Tr.sizes, Tr.sizes]; omega
          · intro x hx
            rcases List.mem_append.mp hx with h | h
            · exact ho x h
            · rw [List.mem_singleton.mp h]; exact ot)
      whiles (m - 1).toNat [.val (.int c), .val (.int m), .val (.str l), .own [], .val (.int (m - 1)), .no, .no] (by unfold whiles; omega) ⟨[], by
        have : (((m - 1 : Int).toNat : Nat) : Int) = m - 1 := by omega
        rw [this]; rfl, by rw [Tr.sizes]; omega, fun x hx => nomatch hx⟩
    subst ei
    refine ⟨.mk l ks, ?_, by rw [Tr.size]; omega, by rw [Tr.ok, oks_iff]; exact ⟨hl, ho⟩⟩
    rw [r_tree, Tr.enc, encs_map]
    simp [runB_eq, f_law_tree, b_law_tree, m1, el]
    rw [ew]
    simp
end Pu.k14
/-! nodes, what lies at a node, finds -/
namespace Pu.k14
open PySem L2
theorem r_nodes (k : Nat) (args : List D) : run tf (k + 1) 0 args = runB (run tf k) f_nodes args := rfl
theorem r_tree_at (k : Nat) (args : List D) : run tf (k + 1) 1 args = runB (run tf k) f_tree_at args := rfl
theorem r_kids_of (k : Nat) (args : List D) : run tf (k + 1) 2 args = runB (run tf k) f_kids_of args := rfl
theorem r_all_below (k : Nat) (args : List D) : run tf (k + 1) 3 args = runB (run tf k) f_all_below args := rfl
theorem ix_p1 (a b : D) : ixD (.tuple [a, b]) (.int 1) = .ok b := rfl
theorem ix_p0 (a b : D) : ixD (.tuple [a, b]) (.int 0) = .ok a := rfl
theorem nodes_len (t : Tr) : (nodesT t).length = t.size := by unfold nodesT; rw [List.length_map, allT_len]
theorem nodes_ev : ∀ (n : Nat) (t : Tr) (k : Nat), t.size ≤ n → n ≤ 900 → n ≤ k → run tf (k + 1) 0 [t.enc] = .ok (.tuple ((nodesT t).map encN))
  | 0, t, k, h, _, _ => by have := size_pos t; omega
  | n + 1, .mk l ks, k, h, h9, hk => by
    obtain ⟨k, rfl⟩ : ∃ k', k = k' + 1 := ⟨k - 1, by omega⟩
    have hs : (nodesT (.mk l ks)).length ≤ 900 := by rw [nodes_len]; omega
    rw [nodesT_eq, List.length_cons] at hs
    have hl := loop_flat (body := evSs (run tf (k + 1)) [.ext 1 (.comp (.bin .add (.tup [.var 2]) (.var 4)) (.name 4) .plain [.call 0 [.var 3]] [] [4])]) (tg := .tup [.name 2, .name 3]) (kill := [2, 3])
      (env := fun acc : List Node => [.val (Tr.mk l ks).enc, .own (acc.map encN), .no, .no, .no]) (enc := encKid) (f := belowN) (B := 900)
      (kidsFrom [] 0 ks) [[]] (by rw [List.length_singleton]; omega) (fun y hy acc hacc => by
        obtain ⟨h1, h2⟩ := mem_kids hy
        generalize y.1.getLastD 0 = j at h1 h2
        obtain ⟨z, t⟩ := y
        have h1 : z = [j] := h1
        have h2 : ks[j]? = some t := h2
        subst h1
        have hz : t.size ≤ Tr.sizes ks := size_mem (List.mem_of_getElem? h2)
        rw [Tr.size] at h
        have ih := nodes_ev n t k (by omega) (by omega) (by omega)
        have hc : ev (run tf (k + 1)) (.comp (.bin .add (.tup [.var 2]) (.var 4)) (.name 4) .plain [.call 0 [.var 3]] [] [4]) [.val (Tr.mk l ks).enc, .own (acc.map encN), .val (.int (j : Int)), .val t.enc, .no] = .ok (.list ((nodesT t).map fun x => encN ([j] ++ x))) :=
          compT (enc := encN) (ds := [.tuple ((nodesT t).map encN)]) (by simp [ih]) rfl fun x hx => by
            have hx : List.length x < t.size := nodes_dep hx
            have hx2 : 1 + List.length x ≤ 16777216 := by omega
            simp [encN, binD, addD, hx2]
        simp [encKid, hc]
        have hb : (belowN ([j], t)).length = (nodesT t).length := by unfold belowN; rw [List.length_map]
        have he : acc.length + (nodesT t).length ≤ 16777216 := by omega
        rw [loopL_cons]
        simp [encKid, hc, he, belowN, Function.comp_def])
    have hi : items .enum [.tuple (ks.map Tr.enc)] = .ok ((kidsFrom [] 0 ks).map encKid) := items_kids [] ks
    rw [r_nodes, nodesT_eq]
    rw [enc_eq] at hl ⊢
    simp only [Tr.let_, Tr.kids, List.map_cons, List.map_nil, encN_nil] at hl ⊢
    simp [runB_eq, f_nodes, b_nodes, ix_p1, hi, hl, encN_nil]
theorem tree_at_ok : ∀ (nd : Node) (t s : Tr) (k : Nat) (v : Sl), t.sub nd = some s → loopL (evSs (run tf k) [.iff (.not (.chn .le .lt (.cst (.int 0)) (.var 2) (.bi .len [.ix (.var 0) (.cst (.int 1))]))) [.raise "NoNode"] [], .set 0 (.ix (.ix (.var 0) (.cst (.int 1))) (.var 2))]) (.name 2) [2] (nd.map fun (k : Nat) => (.int (k : Int) : D)) [.val t.enc, v, .no] = .next [.val s.enc, v, .no]
  | [], t, s, k, v, h => by cases h; rfl
  | i :: r, t, s, k, v, h => by
    rw [Tr.sub] at h
    split at h
    · rename_i c hc
      have ih := tree_at_ok r c s k v h
      have hlt := (List.getElem?_eq_some_iff.mp hc).1
      have hx : ixD (.tuple (t.kids.map Tr.enc)) (.int (i : Int)) = .ok c.enc := by
        show Rs.ofO (atI _ _) = _
        rw [atI_nn (Int.natCast_nonneg i), Int.toNat_natCast, List.getElem?_map, hc]
        rfl
      rw [List.map_cons, loopL_one, loopL_cons]
      rw [enc_eq] at *
      simp [ix_p1, hx, hlt]
      exact ih
    · cases h
theorem tree_at_ev (nd : Node) (t s : Tr) (k : Nat) (h : t.sub nd = some s) : run tf (k + 1) 1 [t.enc, encN nd] = .ok s.enc := by
  have hl := tree_at_ok nd t s k (.val (encN nd)) h
  rw [r_tree_at]
  simp [runB_eq, f_tree_at, b_tree_at]
  simp [encN] at hl ⊢
  rw [hl]
  simp
theorem kids_of_ev (nd : Node) (t s : Tr) (k : Nat) (h : t.sub nd = some s) (hs : s.size ≤ 900) (hd : nd.length ≤ 900) : run tf (k + 2) 2 [t.enc, encN nd] = .ok (.list ((kidsAt (nd, s)).map fun y => encN y.1)) := by
  have hn : s.kids.length ≤ 900 := by
    obtain ⟨l, ks⟩ := s
    have := len_sizes ks
    rw [Tr.size] at hs
    show ks.length ≤ 900
    omega
  have h1 := tree_at_ev nd t s k h
  have hr : items .range1 [.int (s.kids.length : Int)] = .ok ((List.range s.kids.length).map fun (i : Nat) => .int (i : Int)) := by
    rw [it_r1 (by omega) (by omega), Int.toNat_natCast]
  have hc : ev (run tf (k + 1)) (.comp (.bin .add (.var 1) (.tup [.var 2])) (.name 2) .range1 [.bi .len [.ix (.call 1 [.var 0, .var 1]) (.cst (.int 1))]] [] [2]) [.val t.enc, .val (encN nd), .no] = .ok (.list ((List.range s.kids.length).map fun j => encN (nd ++ [j]))) :=
    compT (enc := fun (i : Nat) => .int (i : Int)) (ds := [.int (s.kids.length : Int)]) (by rw [enc_eq s] at h1; simp [h1, ix_p1]) hr fun j hj => by
      have hx2 : List.length nd + 1 ≤ 16777216 := by omega
      simp [encN, binD, addD, hx2]
  have e := kids_range nd s.kids 0
  simp only [Nat.zero_add] at e
  rw [r_kids_of]
  unfold kidsAt
  rw [e]
  simp [runB_eq, f_kids_of, b_kids_of]
  rw [hc]
  rfl
theorem eqv_nil (x : Node) : PyData.eqv (encN x) (.tuple []) = (x == []) := by
  cases x <;> rfl
theorem all_below_ev (nd : Node) (t s : Tr) (n k : Nat) (h : t.sub nd = some s) (hs : s.size ≤ n) (hn : n ≤ 900) (hk : n ≤ k) (hd : nd.length ≤ 900) : run tf (k + 2) 3 [t.enc, encN nd] = .ok (.list ((cands true (kidsAt (nd, s))).map fun y => encN y.1)) := by
  have h1 := tree_at_ev nd t s k h
  have h2 := nodes_ev n s k hs hn hk
  have hc : ev (run tf (k + 1)) (.comp (.bin .add (.var 1) (.var 2)) (.name 2) .plain [.call 0 [.call 1 [.var 0, .var 1]]] [.cmp .ne (.var 2) (.tup [])] [2]) [.val t.enc, .val (encN nd), .no] = .ok (.list (((nodesT s).filter fun x => !(x == [])).map fun x => encN (nd ++ x))) :=
    compF (enc := encN) (ds := [.tuple ((nodesT s).map encN)]) (by simp [h1, h2]) rfl (fun x hx => by
      have := cmp_ne (a := encN x) (b := .tuple []) (.inr (by decide))
      rw [eqv_nil] at this
      simp [this]) fun x hx _ => by
      have hx : List.length x < s.size := nodes_dep hx
      have hx2 : List.length nd + List.length x ≤ 16777216 := by omega
      simp [encN, binD, addD, hx2]
  rw [below_eq] at hc
  rw [r_all_below]
  simp [runB_eq, f_all_below, b_all_below]
  rw [hc]
  rfl
theorem r_places (k : Nat) (args : List D) : run tf (k + 1) 4 args = runB (run tf k) f_places args := rfl
theorem ix_q0 (a b c : D) : ixD (.tuple [a, b, c]) (.int 0) = .ok a := rfl
theorem ix_q1 (a b c : D) : ixD (.tuple [a, b, c]) (.int 1) = .ok b := rfl
theorem ix_q2 (a b c : D) : ixD (.tuple [a, b, c]) (.int 2) = .ok c := rfl
theorem way_in (d : Bool) : cmpD .eq (.str (wayS d)) (.str "in") = .ok (!d) := by
  rw [cmp_eq (.inl (by cases d <;> decide))]
  exact congrArg Rs.ok (by cases d <;> decide +kernel)
theorem places_none (st : St) (t : Tr) (n k : Nat) (hs : t.size ≤ n) (hn : n ≤ 900) (hk : n ≤ k) : run tf (k + 2) 4 [st.enc, t.enc, .none] = .ok (.list ((cands st.deep [([], t)]).map fun y => encN y.1)) := by
  obtain ⟨d, l, ts⟩ := st
  have h1 := way_in d
  have h2 := nodes_ev n t k hs hn hk
  rw [r_places, St.enc]
  cases d with
  | false =>
    simp [runB_eq, f_places, b_places, ix_q0, h1, cands, St.deep, encN_nil]
  | true =>
    simp [runB_eq, f_places, b_places, ix_q0, h1, h2, cands, St.deep, nodesT]
theorem places_some (st : St) (t s : Tr) (nd : Node) (n k : Nat) (h : t.sub nd = some s) (hs : s.size ≤ n) (hn : n ≤ 900) (hk : n ≤ k) (hd : nd.length ≤ 900) : run tf (k + 3) 4 [st.enc, t.enc, encN nd] = .ok (.list ((cands st.deep (kidsAt (nd, s))).map fun y => encN y.1)) := by
  obtain ⟨d, l, ts⟩ := st
  have h1 := way_in d
  have h2 := all_below_ev nd t s n k h hs hn hk hd
  have h3 := kids_of_ev nd t s k h (by omega) hd
  have h4 : isD (encN nd) .none = .ok false := by cases nd <;> rfl
  rw [r_places, St.enc]
  cases d with
  | false =>
    simp [-isc_non, runB_eq, f_places, b_places, ix_q0, h1, h3, h4, cands, St.deep]
  | true =>
    simp [-isc_non, runB_eq, f_places, b_places, ix_q0, h1, h2, h4, St.deep]
theorem r_by_step (k : Nat) (args : List D) : run tf (k + 1) 5 args = runB (run tf k) f_by_step args := rfl
theorem places_ev {t : Tr} {B : D} {kids : List (Node × Tr)} (h : Base t B kids) (st : St) (n k : Nat) (hs : t.size ≤ n) (hn : n ≤ 900) (hk : n + 1 ≤ k) : run tf (k + 2) 4 [st.enc, t.enc, B] = .ok (.list ((cands st.deep kids).map fun y => encN y.1)) := by
  rcases h with ⟨rfl, rfl⟩ | ⟨nd, s, h, rfl, rfl⟩
  · exact places_none st t n k hs hn (by omega)
  · obtain ⟨k, rfl⟩ : ∃ k', k = k' + 1 := ⟨k - 1, by omega⟩
    have := sub_size nd t s h
    exact places_some st t s nd n k h (by omega) hn (by omega) (by omega)
theorem eqv_list_nil (xs : List D) : PyData.eqv (.list xs) (.list []) = xs.isEmpty := by
  cases xs <;> rfl
theorem by_ev {t : Tr} {B : D} {kids : List (Node × Tr)} (hb : Base t B kids) (st : St) (n k : Nat) (hs : t.size ≤ n) (hn : n ≤ 900) (hk : n + 3 ≤ k)
    (H : ∀ p ∈ st.tests, ∀ y ∈ cands st.deep kids, run tf k 6 [encP p, t.enc, encN y.1] = .ok (.list ((waysK p (kidsAt y)).map encW))) :
    run tf (k + 1) 5 [st.enc, t.enc, B] = .ok (.list (((cands st.deep kids).filter st.fit).map fun y => encN y.1)) := by
  obtain ⟨k, rfl⟩ : ∃ k', k = k' + 2 := ⟨k - 2, by omega⟩
  have hp := places_ev hb st n k hs hn (by omega)
  have hsub := cands_sub (d := st.deep) (base_sub hb)
  have hlen := cands_len st.deep kids
  have hsz := base_szs hb
  generalize cands st.deep kids = xs at hp hsub H hlen ⊢
  obtain ⟨d, l, ts⟩ := st
  have H : ∀ p ∈ ts, ∀ y ∈ xs, run tf (k + 2) 6 [encP p, t.enc, encN y.1] = .ok (.list ((waysK p (kidsAt y)).map encW)) := H
  have hl := loop_flat (body := evSs (run tf (k + 2)) [.iff (.and [.cmp .eq (.ix (.call 1 [.var 1, .var 4]) (.cst (.int 0))) (.ix (.var 0) (.cst (.int 1))), .bi .all [.comp (.cmp .ne (.call 6 [.var 5, .var 1, .var 4]) (.lst [])) (.name 5) .plain [.ix (.var 0) (.cst (.int 2))] [] [5]]]) [.app 3 (.var 4)] []])
    (tg := .name 4) (kill := [4]) (env := fun acc : List (Node × Tr) => [.val (St.mk d l ts).enc, .val t.enc, .val B, .own (acc.map fun y => encN y.1), .no, .no])
    (enc := fun y : Node × Tr => encN y.1) (f := fun y => if (St.mk d l ts).fit y then [y] else []) (B := 900) xs [] (by
      have : (xs.flatMap fun y => if (St.mk d l ts).fit y then [y] else []).length ≤ xs.length * 1 := flat_len fun x _ => by split <;> simp
      rw [List.length_nil]; omega) (fun y hy acc hacc => by
      have h1 := tree_at_ev y.1 t y.2 (k + 1) (hsub y hy)
      rw [enc_eq y.2] at h1
      have h2 : cmpD .eq (.str y.2.let_) (.str l) = .ok (y.2.let_ == l) := by
        rw [cmp_eq (a := .str y.2.let_) (.inl (Nat.le_of_ble_eq_true rfl))]; rfl
      have h3 : ev (run tf (k + 2)) (.comp (.cmp .ne (.call 6 [.var 5, .var 1, .var 4]) (.lst [])) (.name 5) .plain [.ix (.var 0) (.cst (.int 2))] [] [5]) [.val (.tuple [.str (wayS d), .str l, .tuple (encTs ts)]), .val t.enc, .val B, .own (acc.map fun y => encN y.1), .val (encN y.1), .no] = .ok (.list (ts.map fun p => .bool (hasB p (kidsAt y)))) :=
        compT (enc := encP) (ds := [.tuple (ts.map encP)]) (by simp [ix_q2, encTs_map]) rfl fun p hp => by
          have h4 := H p hp y hy
          have h5 := cmp_ne (a := .list ((waysK p (kidsAt y)).map encW)) (b := .list []) (.inr (by decide))
          rw [eqv_list_nil] at h5
          rw [hasB_ways]
          simp [h4, h5]
      rw [loopL_cons]
      have hfit : (St.mk d l ts).fit y = (y.2.let_ == l && ts.all fun p => hasB p (kidsAt y)) := by rw [St.fit, testsB_all]
      rw [hfit] at hacc ⊢
      rw [St.enc]
      cases hA : y.2.let_ == l with
      | false =>
        rw [hA] at h2
        simp [h1, ix_p0, ix_q1, h2]
      | true =>
        rw [hA] at h2 hacc
        cases hB : ts.all fun p => hasB p (kidsAt y) with
        | false =>
          simp [h1, ix_p0, ix_q1, h2, h3, hB]
        | true =>
          rw [hB] at hacc
          have hacc : acc.length + 1 ≤ 900 := hacc
          have hacc : acc.length < 16777216 := by omega
          simp [h1, ix_p0, ix_q1, h2, h3, hB, hacc])
  have hf : (xs.flatMap fun y => if (St.mk d l ts).fit y then [y] else []) = xs.filter (St.mk d l ts).fit := by
    exact flat_filter _ _
  rw [hf] at hl
  rw [r_by_step]
  simp only [List.map_nil, List.nil_append] at hl
  simp [runB_eq, f_by_step, b_by_step, hp, hl]
theorem r_ways_from (k : Nat) (args : List D) : run tf (k + 1) 6 args = runB (run tf k) f_ways_from args := rfl
def hereD (B : D) (w : Way) : D := match w.getLast? with
  | none => B
  | some y => encN y.1
theorem here_ev (B : D) (w : Way) (C : Nat → List D → Rs D) (x0 x1 x3 x4 x5 x7 x8 : Sl) : ev C (.ite (.var 6) (.ix (.var 6) (.neg 1)) (.var 2)) [x0, x1, .val B, x3, x4, x5, .val (encW w), x7, x8] = .ok (hereD B w) := by
  rcases List.eq_nil_or_concat w with rfl | ⟨u, y, rfl⟩
  · rfl
  · have e : truth (encW (u ++ [y])) = .ok true := by
      unfold encW
      rw [List.map_append]
      cases u <;> rfl
    have e2 : ixD (encW (u ++ [y])) (.int (-1)) = .ok (encN y.1) := by
      unfold encW
      show Rs.ofO (atI _ _) = _
      have e3 : (1 : Int) ≤ (u.length : Int) + 1 := by omega
      have e4 : (-1 + ((u.length : Int) + 1)).toNat = u.length := by omega
      simp [atI, ixN, e3, e4]
    simp [List.concat_eq_append, e, e2, hereD]
theorem ways_in {t : Tr} {B : D} {kids : List (Node × Tr)} (vp R : Sl) (st : St) (k : Nat) (rows : List Way)
    (Hb : ∀ w ∈ rows, run tf k 5 [st.enc, t.enc, hereD B w] = .ok (.list (((cands st.deep (kidsOf kids w)).filter st.fit).map fun y => encN y.1)))
    (Hl : ∀ w ∈ rows, w.length ≤ 900) (hB : (rows.flatMap (stepR kids st)).length ≤ 16777216) :
    loopL (evSs (run tf k) [.set 7 (.ite (.var 6) (.ix (.var 6) (.neg 1)) (.var 2)),
          .ext 5 (.comp (.bin .add (.var 6) (.tup [.var 8])) (.name 8) .plain [.call 5 [.var 4, .var 1, .var 7]] [] [8])]) (.name 6) [6, 7] (rows.map encW)
      [vp, .val t.enc, .val B, R, .val st.enc, .own [], .no, .no, .no] = .next [vp, .val t.enc, .val B, R, .val st.enc, .own ((rows.flatMap (stepR kids st)).map encW), .no, .no, .no] := by
  have hl := loop_flat (body := evSs (run tf k) [.set 7 (.ite (.var 6) (.ix (.var 6) (.neg 1)) (.var 2)),
          .ext 5 (.comp (.bin .add (.var 6) (.tup [.var 8])) (.name 8) .plain [.call 5 [.var 4, .var 1, .var 7]] [] [8])]) (tg := .name 6) (kill := [6, 7])
    (env := fun acc : List Way => [vp, .val t.enc, .val B, R, .val st.enc, .own (acc.map encW), .no, .no, .no]) (enc := encW) (f := stepR kids st) (B := 16777216) rows [] (by rw [List.length_nil]; omega) (fun w hw acc hacc => by
      have h1 := here_ev B w (run tf k) vp (.val t.enc) R (.val st.enc) (.own (acc.map encW)) .no .no
      have h2 := Hb w hw
      have h3 := Hl w hw
      have hc : ev (run tf k) (.comp (.bin .add (.var 6) (.tup [.var 8])) (.name 8) .plain [.call 5 [.var 4, .var 1, .var 7]] [] [8]) [vp, .val t.enc, .val B, R, .val st.enc, .own (acc.map encW), .val (encW w), .val (hereD B w), .no] = .ok (.list (((cands st.deep (kidsOf kids w)).filter st.fit).map fun y => encW (w ++ [y]))) :=
        compT (enc := fun y : Node × Tr => encN y.1) (ds := [.list (((cands st.deep (kidsOf kids w)).filter st.fit).map fun y => encN y.1)]) (by simp [h2]) rfl fun y _ => by
          have hx2 : w.length + 1 ≤ 16777216 := by omega
          simp [encW, binD, addD, hx2]
      have hs : (stepR kids st w).map encW = ((cands st.deep (kidsOf kids w)).filter st.fit).map fun y => encW (w ++ [y]) := by
        unfold stepR
        rw [List.map_map]; rfl
      have hn : (stepR kids st w).length = ((cands st.deep (kidsOf kids w)).filter st.fit).length := by
        unfold stepR
        rw [List.length_map]
      rw [hn] at hacc
      rw [loopL_cons, List.map_append, hs]
      simp [-ev_ite, h1, hc, hacc])
  rw [List.nil_append] at hl
  exact hl
def outB : List S := [.own 5 (.lst []),
       .loop (.name 6) .plain [.var 3]
         [.set 7 (.ite (.var 6) (.ix (.var 6) (.neg 1)) (.var 2)),
          .ext 5 (.comp (.bin .add (.var 6) (.tup [.var 8])) (.name 8) .plain [.call 5 [.var 4, .var 1, .var 7]] [] [8])]
         [6, 7],
       .frz 5 (.set 3 (.var 5))]
theorem base_here {t : Tr} {B : D} {kids : List (Node × Tr)} (hb : Base t B kids) (w : Way) (h : ∀ y ∈ w, t.sub y.1 = some y.2) : Base t (hereD B w) (kidsOf kids w) := by
  unfold hereD kidsOf
  rcases List.eq_nil_or_concat w with rfl | ⟨u, y, rfl⟩
  · exact hb
  · have e : (u.concat y).getLast? = some y := by simp
    rw [e]
    exact .inr ⟨y.1, y.2, h y (by simp), rfl, rfl⟩
theorem ways_loop {t : Tr} {B : D} {kids : List (Node × Tr)} (hb : Base t B kids) (vp : Sl) (k N : Nat) (h0 : 1 ≤ N) (hN : t.size ≤ N) : ∀ (r : Pt) (rows : List Way),
    (∀ s ∈ r, ∀ B' kids', Base t B' kids' → run tf k 5 [s.enc, t.enc, B'] = .ok (.list (((cands s.deep kids').filter s.fit).map fun y => encN y.1))) →
    (∀ w ∈ rows, w.length + r.length ≤ 900 ∧ ∀ y ∈ w, t.sub y.1 = some y.2) → rows.length * N ^ r.length ≤ 16777216 →
    loopL (evSs (run tf k) outB) (.name 4) [4, 5, 6, 7] (r.map St.enc) [vp, .val t.enc, .val B, .val (.list (rows.map encW)), .no, .no, .no, .no, .no] = .next [vp, .val t.enc, .val B, .val (.list ((stepsR kids r rows).map encW)), .no, .no, .no, .no, .no]
  | [], rows, _, _, _ => rfl
  | s :: r, rows, H, hw, hl => by
    have hlen : (rows.flatMap (stepR kids s)).length ≤ rows.length * N := flat_len fun w hw' => by
      unfold stepR
      rw [List.length_map]
      have h1 := List.length_filter_le s.fit (cands s.deep (kidsOf kids w))
      have h2 := cands_len s.deep (kidsOf kids w)
      have h3 := base_szs (base_here hb w (hw w hw').2)
      omega
    rw [List.length_cons, Nat.pow_succ] at hl
    have hp : 1 ≤ N ^ r.length := Nat.one_le_pow _ _ h0
    have e1 : rows.length * (N ^ r.length * N) = rows.length * N * N ^ r.length := by rw [Nat.mul_comm (N ^ r.length), Nat.mul_assoc]
    have e2 : rows.length * N ≤ rows.length * N * N ^ r.length := Nat.le_mul_of_pos_right _ hp
    have e3 : (rows.flatMap (stepR kids s)).length * N ^ r.length ≤ rows.length * N * N ^ r.length := Nat.mul_le_mul_right _ hlen
    have hin := ways_in (t := t) (B := B) (kids := kids) vp (.val (.list (rows.map encW))) s k rows (fun w h => H s (.head _) _ _ (base_here hb w (hw w h).2)) (fun w h => by have := (hw w h).1; omega) (by omega)
    have ih := ways_loop hb vp k N h0 hN r (rows.flatMap (stepR kids s)) (fun s' h => H s' (.tail _ h)) (fun w' h => by
      obtain ⟨w, h1, h2⟩ := List.mem_flatMap.mp h
      have h3 := hw w h1
      unfold stepR at h2
      obtain ⟨y, h4, rfl⟩ := List.mem_map.mp h2
      have h5 := cands_sub (base_sub (base_here hb w h3.2)) y (List.mem_filter.mp h4).1
      refine ⟨by rw [List.length_append, List.length_singleton]; have := h3.1; rw [List.length_cons] at this; omega, fun z hz => ?_⟩
      rcases List.mem_append.mp hz with hz | hz
      · exact h3.2 z hz
      · rw [List.mem_singleton.mp hz]; exact h5) (by omega)
    rw [List.map_cons, loopL_one, stepsR]
    have e : loopL (evSs (run tf k) outB) (.name 4) [4, 5, 6, 7] [s.enc] [vp, .val t.enc, .val B, .val (.list (rows.map encW)), .no, .no, .no, .no, .no] = .next [vp, .val t.enc, .val B, .val (.list ((rows.flatMap (stepR kids s)).map encW)), .no, .no, .no, .no, .no] := by
      rw [loopL_cons]
      simp [outB, hin]
    rw [e, Fl.seq_next]
    exact ih
theorem ways_ev {t : Tr} (n N L : Nat) (h0 : 1 ≤ N) (hs : t.size ≤ N) (hsn : t.size ≤ n) (hn : n ≤ 900) (hL : L ≤ 900) (hNL : N ^ L ≤ 16777216) : ∀ (m : Nat) (p : Pt) (k : Nat) (B : D) (kids : List (Node × Tr)), numP p < m → lenP L p → Base t B kids → n + 2 * m + 3 ≤ k → run tf k 6 [encP p, t.enc, B] = .ok (.list ((waysK p kids).map encW))
  | m + 1, p, k, B, kids, hm, hp, hb, hk => by
    obtain ⟨k, rfl⟩ : ∃ k', k = k' + 2 := ⟨k - 2, by omega⟩
    have hbs : ∀ s ∈ p, ∀ B' kids', Base t B' kids' → run tf (k + 1) 5 [s.enc, t.enc, B'] = .ok (.list (((cands s.deep kids').filter s.fit).map fun y => encN y.1)) := fun s h B' kids' hb' =>
      by_ev hb' s n k hsn hn (by omega) fun q hq y hy => by
        obtain ⟨h1, h2⟩ := tests_of h hq
        exact ways_ev n N L h0 hs hsn hn hL hNL m q k (encN y.1) (kidsAt y) (by omega) (h2 L hp) (.inr ⟨y.1, y.2, cands_sub (base_sub hb') y hy, rfl, rfl⟩) (by omega)
    have hpow : N ^ p.length ≤ N ^ L := Nat.pow_le_pow_right h0 hp.1
    have hl := ways_loop hb (.val (encP p)) (k + 1) N h0 hs p [[]] hbs (fun w hw => by
      rw [List.mem_singleton.mp hw]
      refine ⟨?_, fun y hy => (by cases hy)⟩
      have := hp.1
      rw [List.length_nil]; omega) (by rw [List.length_singleton, Nat.one_mul]; omega)
    rw [stepsR_nil] at hl
    have he : items .plain [encP p] = .ok (p.map St.enc) := by unfold encP; rw [encSs_map]; rfl
    rw [r_ways_from]
    unfold outB at hl
    have hw0 : ([([] : Way)].map encW) = [.tuple []] := rfl
    rw [hw0] at hl
    simp [runB_eq, f_ways_from, b_ways_from, he, hl]
end Pu.k14
/-! what the program finds -/
namespace Pu.k14
open PySem L2
theorem r_finds (k : Nat) (args : List D) : run tf (k + 1) 7 args = runB (run tf k) f_finds args := rfl
theorem finds_of {t : Tr} {p : Pt} {k : Nat} (hp : 1 ≤ p.length) (h62 : t.size ≤ 62) (H : run tf k 6 [encP p, t.enc, .none] = .ok (.list ((waysK p [([], t)]).map encW))) : run tf (k + 1) 7 [encP p, t.enc] = .ok (encNs (findsT p t)) := by
  have hc : ev (run tf k) (.comp (.ix (.var 2) (.neg 1)) (.name 2) .plain [.call 6 [.var 0, .var 1, .cst (.none)]] [] [2]) [.val (encP p), .val t.enc, .no] = .ok (.list (((waysK p [([], t)]).map lastN).map encN)) := by
    rw [← fin_map]
    exact compT (enc := encW) (ds := [.list ((waysK p [([], t)]).map encW)]) (by simp [H]) rfl fun w hw => by
      have := ixW_last (w := w) (by rw [waysK_len p _ w hw]; exact hp)
      simp [this]
  have hl := findsK_len (sub_one t) hp
  have hs := sset_nodes (ns := (waysK p [([], t)]).map lastN) (Nat.le_trans hl h62)
  rw [r_finds]
  unfold findsT findsK encNs
  simp [-List.map_map, runB_eq, f_finds, b_finds, hc, hs]
/-- L: how many steps in a row at most; 62 ^ 3 places -/
theorem finds_ev {t : Tr} {p : Pt} {k : Nat} (hp : 1 ≤ p.length) (hl : lenP 4 p) (h62 : t.size ≤ 62) (hk : 62 + 2 * (numP p + 1) + 4 ≤ k) : run tf (k + 1) 7 [encP p, t.enc] = .ok (encNs (findsT p t)) :=
  finds_of hp h62 (ways_ev 62 62 4 (by decide) h62 h62 (by decide) (by decide) (by decide) (numP p + 1) p k .none [([], t)] (by omega) hl (.inl ⟨rfl, rfl⟩) (by omega))
end Pu.k14
/-! what the law finds -/
namespace Pu.k14
open PySem L2
theorem r_lnodes (k : Nat) (args : List D) : run tf (k + 1) 14 args = runB (run tf k) f_law_nodes args := rfl
theorem r_lways (k : Nat) (args : List D) : run tf (k + 1) 15 args = runB (run tf k) f_law_ways args := rfl
theorem r_lfinds (k : Nat) (args : List D) : run tf (k + 1) 16 args = runB (run tf k) f_law_finds args := rfl
theorem lnodes_ev : ∀ (n : Nat) (t : Tr) (nd : Node) (k : Nat), t.size ≤ n → n ≤ k → nd.length + t.size ≤ 900 → run tf (k + 1) 14 [t.enc, encN nd] = .ok (.list ((allT nd t).map encY))
  | 0, t, nd, k, h, _, _ => by have := size_pos t; omega
  | n + 1, .mk l ks, nd, k, h, hk, h9 => by
    obtain ⟨k, rfl⟩ : ∃ k', k = k' + 1 := ⟨k - 1, by omega⟩
    have hall := allT_eq (nd, .mk l ks)
    simp only at hall
    have hlen := allT_len (.mk l ks) nd
    rw [hall, List.length_cons] at hlen
    have hk9 := Kn.kids (B := 900) (y := (nd, .mk l ks)) h9
    have hksz : ∀ y ∈ kidsFrom nd 0 ks, y.2.size ≤ n := fun y hy => by
      obtain ⟨j, c, hc, rfl⟩ := (mem_kidsAt (x := (nd, .mk l ks))).mp hy
      have := size_mem (List.mem_of_getElem? hc)
      have this : c.size ≤ Tr.sizes ks := this
      rw [Tr.size] at h
      show c.size ≤ n
      omega
    have hl := loop_flat (body := evSs (run tf (k + 1)) [.ext 2 (.call 14 [.var 4, .bin .add (.var 1) (.tup [.var 3])])]) (tg := .tup [.name 3, .name 4]) (kill := [3, 4])
      (env := fun acc : List (Node × Tr) => [.val (Tr.mk l ks).enc, .val (encN nd), .own (acc.map encY), .no, .no]) (enc := encKid) (f := fun y => allT y.1 y.2) (B := 900)
      (kidsFrom nd 0 ks) [(nd, .mk l ks)] (by
        rw [List.length_singleton]
        have : ((kidsFrom nd 0 ks).flatMap fun y => allT y.1 y.2).length + 1 = (Tr.mk l ks).size := hlen
        omega) (fun y hy acc hacc => by
        have h1 := (mem_kids hy).1
        have ih := lnodes_ev n y.2 y.1 k (hksz y hy) (by omega) (hk9 y hy)
        have h2 : binD .add (encN nd) (.tuple [.int ((y.1.getLastD 0 : Nat) : Int)]) = .ok (encN y.1) := by
          conv => rhs; rw [h1, encN_app]
          unfold encN
          exact bin_add_t (by have := hk9 y hy; rw [h1, List.length_append] at this; rw [List.length_map, line_eq, List.length_singleton]; omega)
        have he : acc.length + (allT y.1 y.2).length ≤ 16777216 := by omega
        have hkd : encKid y = .tuple [.int ((y.1.getLastD 0 : Nat) : Int), y.2.enc] := rfl
        generalize y.1.getLastD 0 = jj at h2 hkd
        rw [loopL_cons, hkd]
        simp [h2, ih, he])
    have hi := items_kids nd ks
    rw [r_lnodes, hall]
    have e0 : (Tr.mk l ks).enc = .tuple [.str l, .tuple (ks.map Tr.enc)] := enc_eq _
    have hy0 : encY (nd, .mk l ks) = .tuple [encN nd, (Tr.mk l ks).enc] := rfl
    have hy0 : encY (nd, .mk l ks) = .tuple [encN nd, .tuple [.str l, .tuple (ks.map Tr.enc)]] := by rw [hy0, e0]
    simp only [List.map_cons, List.map_nil, hy0] at hl ⊢
    rw [e0] at hl ⊢
    have hx1 : ixD (.tuple [.str l, .tuple (ks.map Tr.enc)]) (.int 1) = .ok (.tuple (ks.map Tr.enc)) := rfl
    simp [runB_eq, f_law_nodes, b_law_nodes, hx1, hi, hl, kidsAt, Tr.kids, hy0]
theorem szs_eq {kids : List (Node × Tr)} : szs (cands false kids) = szs kids := rfl
/-- the kids of a node, as pairs -/
theorem lhere_ev {C : Nat → List D → Rs D} {ρ : En} {y : Node × Tr} {i j a b : Nat} (hn : y.1.length ≤ 900)
    (h6 : ∀ d e : D, getS (((killS ρ [i, j]).set i (.val d)).set j (.val e)) a = .val (encN y.1))
    (hi : ∀ d e : D, getS (((killS ρ [i, j]).set i (.val d)).set j (.val e)) i = .val d)
    (hj : ∀ d e : D, getS (((killS ρ [i, j]).set i (.val d)).set j (.val e)) j = .val e)
    (h7 : getS ρ b = .val y.2.enc) :
    ev C (.comp (.tup [.bin .add (.var a) (.tup [.var i]), .var j]) (.tup [.name i, .name j]) .enum [.ix (.var b) (.cst (.int 1))] [] [i, j]) ρ = .ok (.list ((kidsAt y).map encY)) := by
  obtain ⟨nd, l, ks⟩ := y
  have e0 : (Tr.mk l ks).enc = .tuple [.str l, .tuple (ks.map Tr.enc)] := enc_eq _
  have hx1 : ixD (Tr.mk l ks).enc (.int 1) = .ok (.tuple (ks.map Tr.enc)) := by rw [e0]; rfl
  have hs : evs C [.ix (.var b) (.cst (.int 1))] ρ = .ok [.tuple (ks.map Tr.enc)] := by simp [h7, hx1]
  rw [ev_comp, hs, Rs.bind_ok, items_kids nd ks, Rs.bind_ok, compL_T (enc := encKid) (g := encY) (fun z hz => by
    have h1 := (mem_kids hz).1
    have h2 : binD .add (encN nd) (.tuple [.int ((z.1.getLastD 0 : Nat) : Int)]) = .ok (encN z.1) := by
      conv => rhs; rw [h1, encN_app]
      unfold encN
      exact bin_add_t (by have hn : nd.length ≤ 900 := hn; rw [List.length_map, line_eq, List.length_singleton]; omega)
    have h6 := h6 (.int ((z.1.getLastD 0 : Nat) : Int)) z.2.enc
    have hi := hi (.int ((z.1.getLastD 0 : Nat) : Int)) z.2.enc
    have hj := hj (.int ((z.1.getLastD 0 : Nat) : Int)) z.2.enc
    generalize hjj : z.1.getLastD 0 = jj at h2 h6 hi hj
    have hk : ∀ e f : En, bindT (.tup [.name i, .name j]) (encKid z) e = some ((e.set i (.val (.int (jj : Int)))).set j (.val z.2.enc)) := fun e f => by rw [← hjj]; rfl
    rw [hk _ ρ, Rs.ofO_some, Rs.bind_ok, evT_nil, Rs.bind_ok, if_pos rfl]
    have h6 : getS (((killS ρ [i, j]).set i (.val (.int (jj : Int)))).set j (.val z.2.enc)) a = .val (encN nd) := h6
    simp [-killS_cons, h6, hi, hj, h2, encY])]
  rfl
abbrev lwB1 : List S := [.ext 5 (.ite (.cmp .eq (.var 2) (.cst (.str "deep"))) (.call 14 [.var 7, .var 6]) (.lst [.tup [.var 6, .var 7]]))]
abbrev lwB2 : List S := [.set 9 (.comp (.tup [.bin .add (.var 6) (.tup [.var 10]), .var 11]) (.tup [.name 10, .name 11]) .enum [.ix (.var 7) (.cst (.int 1))] [] [10, 11]),
       .iff (.and [.cmp .eq (.ix (.var 7) (.cst (.int 0))) (.var 3), .cmp .eq (.comp (.var 12) (.name 12) .plain [.var 4] [.cmp .eq (.call 15 [.var 12, .var 9]) (.lst [])] [12]) (.lst [])])
         [.iff (.cmp .eq (.bi .len [.var 0]) (.cst (.int 1)))
            [.app 8 (.tup [.var 6])]
            [.ext 8 (.comp (.bin .add (.tup [.var 6]) (.var 13)) (.name 13) .plain [.call 15 [.sl (.var 0) [.cst (.int 1)] [], .var 9]] [] [13])]]
         []]
theorem way_deep (d : Bool) : cmpD .eq (.str (wayS d)) (.str "deep") = .ok d := by
  rw [cmp_eq (.inl (by cases d <;> decide))]
  exact congrArg Rs.ok (by cases d <;> decide +kernel)
theorem lways_first (p : Pt) (d : Bool) (l : Str) (ts : List Pt) (k : Nat) : ∀ (xs : List (Node × Tr)) (kd : D) (acc : List (Node × Tr)), Kn 900 xs → (∀ y ∈ xs, y.2.size ≤ k) → acc.length + (cands d xs).length ≤ 900 →
    loopL (evSs (run tf (k + 1)) lwB1) (.tup [.name 6, .name 7]) [6, 7] (xs.map encY) [.val (encP p), .val kd, .val (.str (wayS d)), .val (.str l), .val (encL ts), .own (acc.map encY), .no, .no, .no, .no, .no, .no, .no, .no] =
      .next [.val (encP p), .val kd, .val (.str (wayS d)), .val (.str l), .val (encL ts), .own ((acc ++ cands d xs).map encY), .no, .no, .no, .no, .no, .no, .no, .no] := by
  intro xs kd acc h9 hk hl
  have e : cands d xs = xs.flatMap fun y => if d then allT y.1 y.2 else [y] := by
    unfold cands
    cases d with
    | true => rfl
    | false =>
      clear h9 hk hl
      induction xs with
      | nil => rfl
      | cons x xs ih =>
        rw [if_neg (by decide)] at ih
        rw [if_neg (by decide), List.flatMap_cons, ← ih]; rfl
  rw [e] at hl ⊢
  refine loop_flat (env := fun acc : List (Node × Tr) => [.val (encP p), .val kd, .val (.str (wayS d)), .val (.str l), .val (encL ts), .own (acc.map encY), .no, .no, .no, .no, .no, .no, .no, .no]) (enc := encY) (f := fun y => if d then allT y.1 y.2 else [y]) (B := 900) xs acc hl fun y hy acc hacc => ?_
  have h1 := way_deep d
  have hy0 : encY y = .tuple [encN y.1, y.2.enc] := rfl
  rw [loopL_cons, hy0]
  cases d with
  | true =>
    have hacc : acc.length + (allT y.1 y.2).length ≤ 900 := hacc
    have h2 := lnodes_ev y.2.size y.2 y.1 k (Nat.le_refl _) (hk y hy) (h9 y hy)
    have h3 : acc.length + (allT y.1 y.2).length ≤ 16777216 := by omega
    simp [h1, h2, h3]
  | false =>
    have hacc : acc.length + 1 ≤ 900 := hacc
    have h3 : acc.length + 1 ≤ 16777216 := by omega
    simp [h1, h3, hy0]
theorem lways_ev (n N L K : Nat) (hn : n ≤ 900) (hN : N ≤ 900) (hL9 : L ≤ 900) (h0 : 1 ≤ N) (hNL : N ^ L ≤ 16777216) : ∀ (m : Nat) (p : Pt) (kids : List (Node × Tr)) (k : Nat), numP p < m → goodP L K p → szs kids ≤ N → Kn n kids → n + m + 1 ≤ k → run tf k 15 [encP p, .list (kids.map encY)] = .ok (.list ((waysK p kids).map encW))
  | m + 1, [], kids, k, hm, hg, hz, hKn, hk => absurd (goodP_iff.mp hg).1 (by decide)
  | m + 1, .mk d l ts :: r, kids, k, hm, hg, hz, hKn, hk => by
    obtain ⟨k, rfl⟩ : ∃ k', k = k' + 2 := ⟨k - 2, by omega⟩
    obtain ⟨g1, g2, g3⟩ := goodP_iff.mp hg
    obtain ⟨g4, g5, g6⟩ := good_iff.mp (g3 _ (.head _))
    have hcl := cands_len d kids
    have hfirst := lways_first (.mk d l ts :: r) d l ts k kids (.list (kids.map encY)) [] (fun y hy => Nat.le_trans (hKn y hy) hn) (fun y hy => by have := hKn y hy; omega) (by rw [List.length_nil]; omega)
    have hcK := hKn.cands d
    rw [numP, St.num] at hm
    have hw := ways_len (.mk d l ts :: r) kids N hz
    have hw2 : N ^ (St.mk d l ts :: r).length ≤ N ^ L := Nat.pow_le_pow_right h0 g2
    have hwk : waysK (.mk d l ts :: r) kids = (cands d kids).flatMap fun y => if (St.mk d l ts).fit y then (waysK r (kidsAt y)).map (y :: ·) else [] := by
      rw [waysK, flat_fit]; rfl
    have hwl : ((cands d kids).flatMap fun y => if (St.mk d l ts).fit y then (waysK r (kidsAt y)).map (y :: ·) else []).length ≤ 16777216 := by rw [← hwk]; omega
    have hsec := loop_flat (body := evSs (run tf (k + 1)) lwB2) (tg := .tup [.name 6, .name 7]) (kill := [6, 7, 9])
      (env := fun acc : List Way => [.val (encP (.mk d l ts :: r)), .val (.list (kids.map encY)), .val (.str (wayS d)), .val (.str l), .val (encL ts), .val (.list ((cands d kids).map encY)), .no, .no, .own (acc.map encW), .no, .no, .no, .no, .no])
      (enc := encY) (f := fun y => if (St.mk d l ts).fit y then (waysK r (kidsAt y)).map (y :: ·) else []) (B := 16777216) (cands d kids) [] (by rw [List.length_nil]; omega) (fun y hy acc hacc => by
        have hyK := hcK y hy
        have hyz := cands_size hy
        have hyz2 := szs_kidsAt y
        have hhere : ∀ (a1 a2 a3 a4 a5 a8 : Sl), ev (run tf (k + 1)) (.comp (.tup [.bin .add (.var 6) (.tup [.var 10]), .var 11]) (.tup [.name 10, .name 11]) .enum [.ix (.var 7) (.cst (.int 1))] [] [10, 11]) [.val (encP (.mk d l ts :: r)), a1, a2, a3, a4, a5, .val (encN y.1), .val y.2.enc, a8, .no, .no, .no, .no, .no] = .ok (.list ((kidsAt y).map encY)) := fun a1 a2 a3 a4 a5 a8 =>
          lhere_ev (i := 10) (j := 11) (a := 6) (b := 7) (y := y) (by omega) (fun _ _ => rfl) (fun _ _ => rfl) (fun _ _ => rfl) rfl
        have hKk := Kn.kids hyK
        have e0 : ixD y.2.enc (.int 0) = .ok (.str y.2.let_) := by rw [enc_eq]; rfl
        have h2 : cmpD .eq (.str y.2.let_) (.str l) = .ok (y.2.let_ == l) := by
          rw [cmp_eq (a := .str y.2.let_) (.inl (Nat.zero_le _))]; simp [PyData.eqv]
        have hts : ∀ (a1 a2 a3 a5 a6 a7 a8 : Sl), ev (run tf (k + 1)) (.comp (.var 12) (.name 12) .plain [.var 4] [.cmp .eq (.call 15 [.var 12, .var 9]) (.lst [])] [12]) [.val (encP (.mk d l ts :: r)), a1, a2, a3, .val (encL ts), a5, a6, a7, a8, .val (.list ((kidsAt y).map encY)), .no, .no, .no, .no] = .ok (.list ((ts.filter fun q => !hasB q (kidsAt y)).map encP)) := fun a1 a2 a3 a5 a6 a7 a8 =>
          compF (enc := encP) (ds := [encL ts]) (by simp) rfl (fun q hq => by
            have h3 := numTs_mem hq
            have h4 := lways_ev n N L K hn hN hL9 h0 hNL m q (kidsAt y) (k + 1) (by omega) (g6 q hq) (by omega) hKk (by omega)
            have h5 := cmp_eq (a := .list ((waysK q (kidsAt y)).map encW)) (b := .list []) (.inr (by decide))
            rw [eqv_listnil] at h5
            rw [hasB_ways]
            simp [h4, h5]) fun q hq _ => by simp
        have hnil : cmpD .eq (.list ((ts.filter fun q => !hasB q (kidsAt y)).map encP)) (.list []) = .ok (ts.all fun q => hasB q (kidsAt y)) := by
          rw [cmp_eq (.inr (by decide)), eqv_listnil, ← filter_nil_all]
          simp
        have hy0 : encY y = .tuple [encN y.1, y.2.enc] := rfl
        rw [loopL_cons, hy0]
        rw [fits_eq] at hacc ⊢
        cases hA : y.2.let_ == l with
        | false =>
          rw [hA] at h2
          simp [hhere, e0, h2]
        | true =>
          rw [hA] at h2 hacc
          cases hB : ts.all fun q => hasB q (kidsAt y) with
          | false =>
            rw [hB] at hnil
            simp [hhere, e0, h2, hts, hnil]
          | true =>
            rw [hB] at hnil hacc
            have hacc : acc.length + ((waysK r (kidsAt y)).map (y :: ·)).length ≤ 16777216 := hacc
            rw [List.length_map] at hacc
            match r, hacc, g1, g2, g3, hm, hfirst with
            | [], hacc, _, _, _, _, _ =>
              have hacc : acc.length + 1 ≤ 16777216 := hacc
              have hacc : acc.length < 16777216 := by omega
              have hlen : biD .len [encP [.mk d l ts]] = .ok (.int 1) := lenPd _
              have hww : (waysK [] (kidsAt y)).map (y :: ·) = [[y]] := by rw [waysK]; rfl
              have hwe : encW [y] = .tuple [encN y.1] := rfl
              simp [hhere, e0, h2, hts, hnil, hlen, hacc, hww, hwe]
            | s2 :: r2, hacc, _, g2, g3, hm, _ =>
              have hlen : biD .len [encP (.mk d l ts :: s2 :: r2)] = .ok (.int ((St.mk d l ts :: s2 :: r2).length : Nat)) := lenPd _
              have hne : ¬ (((St.mk d l ts :: s2 :: r2).length : Nat) : Int) = 1 := by rw [List.length_cons, List.length_cons]; omega
              have hgr : goodP L K (s2 :: r2) := goodP_iff.mpr ⟨by rw [List.length_cons]; omega, by rw [List.length_cons] at g2; omega, fun s hs => g3 s (.tail _ hs)⟩
              have hrec := lways_ev n N L K hn hN hL9 h0 hNL m (s2 :: r2) (kidsAt y) (k + 1) (by omega) hgr (by omega) hKk (by omega)
              have hsl : slD (encP (.mk d l ts :: s2 :: r2)) (some 1) none = .ok (encP (s2 :: r2)) := slP_one _
              have hext : ∀ (a1 a2 a3 a4 a5 a7 a8 : Sl), ev (run tf (k + 1)) (.comp (.bin .add (.tup [.var 6]) (.var 13)) (.name 13) .plain [.call 15 [.sl (.var 0) [.cst (.int 1)] [], .var 9]] [] [13]) [.val (encP (.mk d l ts :: s2 :: r2)), a1, a2, a3, a4, a5, .val (encN y.1), a7, a8, .val (.list ((kidsAt y).map encY)), .no, .no, .no, .no] = .ok (.list ((waysK (s2 :: r2) (kidsAt y)).map fun w => encW (y :: w))) := fun a1 a2 a3 a4 a5 a7 a8 =>
                compT (enc := encW) (ds := [.list ((waysK (s2 :: r2) (kidsAt y)).map encW)]) (by simp [hsl, part_int, hrec]) rfl fun w hw => by
                  have hl := waysK_len _ _ w hw
                  have h9 : binD .add (.tuple [encN y.1]) (encW w) = .ok (encW (y :: w)) := by
                    unfold encW
                    rw [bin_add_tt (by rw [List.length_map, List.length_singleton, hl]; have := (goodP_iff.mp hgr).2.1; omega)]
                    rfl
                  simp [h9]
              generalize waysK (s2 :: r2) (kidsAt y) = W at hext hacc ⊢
              generalize (St.mk d l ts :: s2 :: r2).length = ll at hlen hne
              simp [hhere, e0, h2, hts, hnil, hlen, hne, hext, hacc, Function.comp_def])
    rw [List.nil_append] at hsec
    rw [← hwk] at hsec
    rw [r_lways]
    have e1 : ixD (encP (.mk d l ts :: r)) (.int 0) = .ok (.tuple [.str (wayS d), .str l, encL ts]) := by rw [ixP0, St.encE]
    simp only [List.nil_append, List.map_nil] at hfirst hsec
    simp [runB_eq, f_law_ways, b_law_ways, e1, hfirst, hsec]
theorem lfinds_ev {t : Tr} {p : Pt} {k n N L K : Nat} (hn : n ≤ 62) (hs : t.size ≤ n) (hsN : t.size ≤ N) (hN : N ≤ 900) (hL9 : L ≤ 900) (h0 : 1 ≤ N) (hNL : N ^ L ≤ 16777216) (hg : goodP L K p) (hk : n + numP p + 2 ≤ k) : run tf (k + 1) 16 [encP p, t.enc] = .ok (encNs (findsT p t)) := by
  have hp := (goodP_iff.mp hg).1
  have H := lways_ev n N L K (by omega) hN hL9 h0 hNL (numP p + 1) p [([], t)] k (by omega) hg hsN (Kn.one hs) (by omega)
  have hc : ev (run tf k) (.comp (.ix (.var 2) (.neg 1)) (.name 2) .plain [.call 15 [.var 0, .lst [.tup [.tup [], .var 1]]]] [] [2]) [.val (encP p), .val t.enc, .no] = .ok (.list (((waysK p [([], t)]).map lastN).map encN)) := by
    rw [← fin_map]
    have e : (PyData.list [.tuple [.tuple [], t.enc]]) = .list ([(([] : Node), t)].map encY) := rfl
    rw [← e] at H
    exact compT (enc := encW) (ds := [.list ((waysK p [([], t)]).map encW)]) (by simp [H]) rfl fun w hw => by
      have := ixW_last (w := w) (by rw [waysK_len p _ w hw]; exact hp)
      simp [this]
  have hl := findsK_len (sub_one t) hp
  have hs := sset_nodes (ns := (waysK p [([], t)]).map lastN) (Nat.le_trans hl (by omega))
  rw [r_lfinds]
  unfold findsT findsK encNs
  simp [-List.map_map, runB_eq, f_law_finds, b_law_finds, hc, hs]
end Pu.k14
/-! the same -/
namespace Pu.k14
open PySem L2
theorem r_same (k : Nat) (args : List D) : run tf (k + 1) 12 args = runB (run tf k) f_law_same args := rfl
theorem zip_self {α β : Type} (f : α → α → β) : ∀ xs : List α, List.zipWith f xs xs = xs.map fun x => f x x
  | [] => rfl
  | x :: xs => by rw [List.zipWith_cons_cons, zip_self f xs, List.map_cons]
theorem same_ev : ∀ (n : Nat) (d : D) (k : Nat), sd d = true → d.depth ≤ n → n ≤ k → n ≤ 64 → run tf (k + 1) 12 [d, d] = .ok (.bool true)
  | n, .none, k, _, _, _, _ => by rw [r_same]; simp [runB_eq, f_law_same, b_law_same]
  | n, .bool b, k, _, _, _, _ => by
    have h : cmpD .eq (.bool b) (.bool b) = .ok true := by rw [cmp_eq (.inl (Nat.zero_le _))]; simp [PyData.eqv]
    rw [r_same]; simp [runB_eq, f_law_same, b_law_same, h]
  | n, .int i, k, _, _, _, _ => by
    rw [r_same]; simp [runB_eq, f_law_same, b_law_same]
  | n, .str s, k, _, _, _, _ => by
    have h : cmpD .eq (.str s) (.str s) = .ok true := by rw [cmp_eq (.inl (Nat.zero_le _))]; simp [PyData.eqv]
    rw [r_same]; simp [runB_eq, f_law_same, b_law_same, h]
  | 0, .tuple xs, k, _, h, _, _ => by rw [depth_tuple] at h; omega
  | n + 1, .tuple xs, k, hs, hd, hk, h64 => by
    obtain ⟨k, rfl⟩ : ∃ k', k = k' + 1 := ⟨k - 1, by omega⟩
    rw [sd_tuple] at hs
    rw [depth_tuple] at hd
    have hi : items .zip [.tuple xs, .tuple xs] = .ok (xs.map fun x => .tuple [x, x]) := by
      show Rs.ok (List.zipWith (fun x y => PyData.tuple [x, y]) xs xs) = _
      rw [zip_self]
    have hc : ev (run tf (k + 1)) (.comp (.call 12 [.var 2, .var 3]) (.tup [.name 2, .name 3]) .zip [.var 0, .var 1] [] [2, 3]) [.val (.tuple xs), .val (.tuple xs), .no, .no] = .ok (.list (xs.map fun x => .bool ((fun _ => true) x))) := by
      rw [ev_comp]
      simp only [evs_cons, evs_nil, ev_var, getS_zero, getS_succ, Rs.bind_ok, hi]
      rw [compL_T (enc := fun x => .tuple [x, x]) (g := fun x => .bool ((fun _ => true) x)) (fun x hx => by
        have h1 := depthAll_mem hx
        have ih := same_ev n x k (sds_iff.mp hs x hx) (by omega) (by omega) (by omega)
        simp [ih])]
      rfl
    have hall := bi_all_map (fun (_ : D) => true) xs
    rw [r_same]
    simp only [List.all_eq_true.mpr (fun _ _ => rfl : ∀ x ∈ xs, (fun (_ : D) => true) x = true)] at hall
    simp [-bi_all_map, runB_eq, f_law_same, b_law_same, hc, hall]
end Pu.k14
/-! k14: all plain paths -/
namespace Pu.k14
open PySem L2
theorem r_pps (k : Nat) (args : List D) : run tf (k + 1) 8 args = runB (run tf k) f_plain_paths args := rfl
theorem r_all (k : Nat) (args : List D) : run tf (k + 1) 17 args = runB (run tf k) f_law_all args := rfl
theorem r_byf (k : Nat) (args : List D) : run tf (k + 1) 9 args = runB (run tf k) f_by_finds args := rfl
theorem r_apart (k : Nat) (args : List D) : run tf (k + 1) 10 args = runB (run tf k) f_told_apart args := rfl
def ws2 : List Bool := [false, true]
def ls3 : List Str := ["a", "b", "c"]
def st6 : List St := ws2.flatMap fun d => ls3.map fun l => .mk d l []
def ones : List Pt := st6.map fun s => [s]
def plainL : List Pt := ones ++ st6.flatMap fun a => st6.map fun b => [a, b]
def PL : List Pt := srt encP plainL
theorem mem_PL {p : Pt} : p ∈ PL ↔ p ∈ plainL := mem_srt
theorem st6_good {s : St} (h : s ∈ st6) : letS s.let_ ∧ s.tests = [] := by
  obtain ⟨d, _, h⟩ := List.mem_flatMap.mp h
  obtain ⟨l, hl, rfl⟩ := List.mem_map.mp h
  refine ⟨?_, rfl⟩
  show letS l
  unfold letS
  simpa [ls3] using hl
theorem plain_mem {p : Pt} (h : p ∈ plainL) : 1 ≤ p.length ∧ p.length ≤ 2 ∧ ∀ s ∈ p, s ∈ st6 := by
  rcases List.mem_append.mp h with h | h
  · obtain ⟨s, hs, rfl⟩ := List.mem_map.mp h
    exact ⟨Nat.le_refl 1, by show 1 ≤ 2; decide, fun x hx => by rw [List.mem_singleton.mp hx]; exact hs⟩
  · obtain ⟨a, ha, h⟩ := List.mem_flatMap.mp h
    obtain ⟨b, hb, rfl⟩ := List.mem_map.mp h
    refine ⟨by show 1 ≤ 2; decide, Nat.le_refl 2, fun x hx => ?_⟩
    rcases List.mem_cons.mp hx with rfl | hx
    · exact ha
    · rw [List.mem_singleton.mp hx]; exact hb
theorem plain_good {p : Pt} (h : p ∈ plainL) : goodP 3 2 p := by
  obtain ⟨h1, h2, h3⟩ := plain_mem h
  refine goodP_iff.mpr ⟨h1, by omega, fun s hs => ?_⟩
  obtain ⟨a, b⟩ := st6_good (h3 s hs)
  exact good_iff.mpr ⟨a, by rw [b]; exact Nat.zero_le _, fun q hq => by rw [b] at hq; cases hq⟩
theorem plain_num {p : Pt} (h : p ∈ plainL) : numP p ≤ 2 := by
  have key : ∀ p : Pt, (∀ s ∈ p, s.tests = []) → numP p = p.length := by
    intro p
    induction p with
    | nil => intro _; rfl
    | cons s r ih =>
      intro h
      obtain ⟨d, l, ts⟩ := s
      have : ts = [] := h _ (.head _)
      subst this
      rw [numP, ih fun s hs => h s (.tail _ hs), St.num, numTs, List.length_cons]; omega
  obtain ⟨_, h2, h3⟩ := plain_mem h
  rw [key p fun s hs => (st6_good (h3 s hs)).2]
  exact h2
theorem len_plain : plainL.length = 42 := by decide +kernel
theorem len_PL : PL.length = 42 := (srt_len plainL).trans len_plain
theorem it_abc : items .plain [.str "abc"] = .ok (ls3.map .str) := by
  have e : ("abc" : Str) = ⟨#[97, 98, 99]⟩ := by decide +kernel
  have a : ("a" : Str) = ⟨#[97]⟩ := by decide +kernel
  have b : ("b" : Str) = ⟨#[98]⟩ := by decide +kernel
  have c : ("c" : Str) = ⟨#[99]⟩ := by decide +kernel
  unfold ls3
  rw [e, a, b, c]
  rfl
theorem plain_depth {p : Pt} (h : p ∈ plainL) : (encP p).depth ≤ 3 := by
  obtain ⟨_, _, h3⟩ := plain_mem h
  have hs : ∀ s ∈ st6, s.enc.depth ≤ 2 := fun s hs => by
    obtain ⟨_, ht⟩ := st6_good hs
    obtain ⟨d, l, ts⟩ := s
    have ht : ts = [] := ht
    subst ht
    rw [St.encE, encL_nil]
    show max 0 (max 0 (max 1 0)) + 1 ≤ 2
    decide
  rw [encP_eq]
  show PyData.depthAll (p.map St.enc) + 1 ≤ 3
  have : PyData.depthAll (p.map St.enc) ≤ 2 := depthAll_le fun x hx => by
    obtain ⟨s, hs', rfl⟩ := List.mem_map.mp hx
    exact hs s (h3 s hs')
  omega
theorem sorted_plain : biD .sorted [.list (plainL.map encP)] = .ok (.list (PL.map encP)) :=
  sorted_enc (fun a b => alike_paths a b) (fun a => by rw [encP_eq]; exact fun h => nomatch h) fun x hx => Nat.le_trans (plain_depth hx) (by decide)
/-! the two walks -/
abbrev pB1 : List S := [.ext 0 (.comp (.tup [.var 1, .var 2, .tup []]) (.name 2) .plain [.glob "PATH_LETTERS" (.str "abc")] [] [2])]
abbrev pC1 : E := .comp (.tup [.var 4]) (.name 4) .plain [.var 0] [] [4]
abbrev pB2 : List S := [.frz 0 (.ext 3 (.comp (.tup [.var 5, .var 6]) (.name 6) .plain [.var 0] [] [6]))]
abbrev lB1 : List S := [.loop (.name 2) .plain [.cst (.str "abc")] [.app 0 (.tup [.var 1, .var 2, .tup []])] [2]]
abbrev lB2 : List S := [.frz 0 (.loop (.name 6) .plain [.var 0] [.app 3 (.tup [.var 5, .var 6])] [6])]
abbrev env7 (s0 s1 s3 s5 : Sl) : En := [s0, s1, .no, s3, .no, s5, .no]
theorem pp_one (C : Nat → List D → Rs D) (w : D) (acc zs : List D) (hc : ev C (.comp (.tup [.var 1, .var 2, .tup []]) (.name 2) .plain [.glob "PATH_LETTERS" (.str "abc")] [] [2]) (env7 (.own acc) (.val w) .no .no) = .ok (.list zs)) (hl : acc.length + zs.length ≤ 16777216) : loopL (evSs C pB1) (.name 1) [1] [w] (env7 (.own acc) .no .no .no) = .next (env7 (.own (acc ++ zs)) .no .no .no) := by
  rw [loopL_cons]
  simp [hc, hl]
theorem pp_two (C : Nat → List D → Rs D) (a : D) (ss acc zs : List D) (hc : ev C (.comp (.tup [.var 5, .var 6]) (.name 6) .plain [.var 0] [] [6]) (env7 (.val (.list ss)) .no (.own acc) (.val a)) = .ok (.list zs)) (hl : acc.length + zs.length ≤ 16777216) : loopL (evSs C pB2) (.name 5) [5] [a] (env7 (.val (.list ss)) .no (.own acc) .no) = .next (env7 (.val (.list ss)) .no (.own (acc ++ zs)) .no) := by
  rw [loopL_cons]
  simp [hc, hl]
theorem ll_one (C : Nat → List D → Rs D) (w : D) (xs acc zs : List D) (hi : items .plain [.str "abc"] = .ok xs) (h : loopL (evSs C [.app 0 (.tup [.var 1, .var 2, .tup []])]) (.name 2) [2] xs (env7 (.own acc) (.val w) .no .no) = .next (env7 (.own zs) (.val w) .no .no)) : loopL (evSs C lB1) (.name 1) [1, 2] [w] (env7 (.own acc) .no .no .no) = .next (env7 (.own zs) .no .no .no) := by
  rw [loopL_cons]
  simp [hi, h]
theorem ll_two (C : Nat → List D → Rs D) (a : D) (ss acc zs : List D) (h : loopL (evSs C [.app 3 (.tup [.var 5, .var 6])]) (.name 6) [6] ss (env7 (.val (.list ss)) .no (.own acc) (.val a)) = .next (env7 (.val (.list ss)) .no (.own zs) (.val a))) : loopL (evSs C lB2) (.name 5) [5, 6] [a] (env7 (.val (.list ss)) .no (.own acc) .no) = .next (env7 (.val (.list ss)) .no (.own zs) .no) := by
  rw [loopL_cons]
  simp [h]
theorem app_s (C : Nat → List D → Rs D) (w l : D) (acc : List D) (hl : acc.length < 16777216) : loopL (evSs C [.app 0 (.tup [.var 1, .var 2, .tup []])]) (.name 2) [2] [l] (env7 (.own acc) (.val w) .no .no) = .next (env7 (.own (acc ++ [.tuple [w, l, .tuple []]])) (.val w) .no .no) := by
  rw [loopL_cons]
  simp [hl]
theorem app_p (C : Nat → List D → Rs D) (a b : D) (ss acc : List D) (hl : acc.length < 16777216) : loopL (evSs C [.app 3 (.tup [.var 5, .var 6])]) (.name 6) [6] [b] (env7 (.val (.list ss)) .no (.own acc) (.val a)) = .next (env7 (.val (.list ss)) .no (.own (acc ++ [.tuple [a, b]])) (.val a)) := by
  rw [loopL_cons]
  simp [hl]
theorem pC1_ev (C : Nat → List D → Rs D) (s0 : Sl) : ev C pC1 (env7 (.val (.list (st6.map St.enc))) .no .no .no) = .ok (.list (ones.map encP)) := by
  have h := compT (C := C) (ρ := env7 (.val (.list (st6.map St.enc))) .no .no .no) (elt := .tup [.var 4]) (i := 4) (own := [4]) (k := .plain) (src := [.var 0]) (ds := [.list (st6.map St.enc)]) (xs := st6) (enc := St.enc) (g := fun s => .tuple [s.enc]) (by simp) rfl fun s _ => by
    generalize s.enc = S
    simp
  rw [h]
  unfold ones
  rw [List.map_map]
  rfl
theorem st6_enc (d : Bool) : (ls3.map fun l => (PyData.tuple [.str (wayS d), .str l, .tuple []])) = (ls3.map fun l => (St.mk d l [])).map St.enc := by
  rw [List.map_map]
  refine List.map_congr_left fun l _ => ?_
  show _ = (St.mk d l []).enc
  rw [St.encE, encL_nil]
theorem loopA (C : Nat → List D → Rs D) : loopL (evSs C pB1) (.name 1) [1] (ws2.map fun d => .str (wayS d)) (env7 (.own []) .no .no .no) = .next (env7 (.own (st6.map St.enc)) .no .no .no) := by
  have := loop_flat (body := evSs C pB1) (tg := .name 1) (kill := [1]) (env := fun acc : List St => env7 (.own (acc.map St.enc)) .no .no .no) (enc := fun d => (.str (wayS d) : D)) (f := fun d => ls3.map fun l => (St.mk d l [])) (B := 100) ws2 [] (by decide) fun d _ acc hl => by
    have hc := compT (C := C) (ρ := env7 (.own (acc.map St.enc)) (.val (.str (wayS d))) .no .no) (elt := .tup [.var 1, .var 2, .tup []]) (i := 2) (own := [2]) (k := .plain) (src := [.glob "PATH_LETTERS" (.str "abc")]) (ds := [.str "abc"]) (xs := ls3) (enc := PyData.str) (g := fun l => .tuple [.str (wayS d), .str l, .tuple []]) (by simp) it_abc fun l _ => by simp
    rw [st6_enc] at hc
    have := pp_one C _ _ _ hc (by rw [List.length_map, List.length_map]; omega)
    rw [← List.map_append] at this
    exact this
  exact this
theorem loopB (C : Nat → List D → Rs D) : loopL (evSs C pB2) (.name 5) [5] (st6.map St.enc) (env7 (.val (.list (st6.map St.enc))) .no (.own (ones.map encP)) .no) = .next (env7 (.val (.list (st6.map St.enc))) .no (.own (plainL.map encP)) .no) := by
  have := loop_flat (body := evSs C pB2) (tg := .name 5) (kill := [5]) (env := fun acc : List Pt => env7 (.val (.list (st6.map St.enc))) .no (.own (acc.map encP)) .no) (enc := St.enc) (f := fun a => st6.map fun b => [a, b]) (B := 100) st6 ones (by decide +kernel) fun a _ acc hl => by
    have hc := compT (C := C) (ρ := env7 (.val (.list (st6.map St.enc))) .no (.own (acc.map encP)) (.val a.enc)) (elt := .tup [.var 5, .var 6]) (i := 6) (own := [6]) (k := .plain) (src := [.var 0]) (ds := [.list (st6.map St.enc)]) (xs := st6) (enc := St.enc) (g := fun b => .tuple [a.enc, b.enc]) (by simp) rfl fun b _ => by
      generalize b.enc = B
      generalize a.enc = A
      simp
    have e : (st6.map fun b => (PyData.tuple [a.enc, b.enc])) = (st6.map fun b => [a, b]).map encP := by rw [List.map_map]; rfl
    rw [e] at hc
    have := pp_two C _ _ _ _ hc (by rw [List.length_map, List.length_map]; omega)
    rw [← List.map_append] at this
    exact this
  exact this
theorem loopC (C : Nat → List D → Rs D) : loopL (evSs C lB1) (.name 1) [1, 2] (ws2.map fun d => .str (wayS d)) (env7 (.own []) .no .no .no) = .next (env7 (.own (st6.map St.enc)) .no .no .no) := by
  have := loop_flat (body := evSs C lB1) (tg := .name 1) (kill := [1, 2]) (env := fun acc : List St => env7 (.own (acc.map St.enc)) .no .no .no) (enc := fun d => (.str (wayS d) : D)) (f := fun d => ls3.map fun l => (St.mk d l [])) (B := 100) ws2 [] (by decide) fun d _ acc hl => by
    have inner := loop_flat (body := evSs C [.app 0 (.tup [.var 1, .var 2, .tup []])]) (tg := .name 2) (kill := [2]) (env := fun acc : List St => env7 (.own (acc.map St.enc)) (.val (.str (wayS d))) .no .no) (enc := PyData.str) (f := fun l => [St.mk d l []]) (B := 100) ls3 acc (by
      have : (ls3.map fun l => (St.mk d l [])).length = 3 := rfl
      rw [this] at hl
      exact hl) fun l _ acc hl => by
        have e : (PyData.tuple [.str (wayS d), .str l, .tuple []]) = (St.mk d l []).enc := by rw [St.encE, encL_nil]
        have := app_s C (.str (wayS d)) (.str l) (acc.map St.enc) (by rw [List.length_map]; simp at hl; omega)
        rw [e] at this
        rw [List.map_append]
        exact this
    have e2 : (ls3.flatMap fun l => [St.mk d l []]) = ls3.map fun l => (St.mk d l []) := by simp [ls3]
    rw [e2] at inner
    exact ll_one C _ _ _ _ it_abc inner
  exact this
theorem loopD (C : Nat → List D → Rs D) : loopL (evSs C lB2) (.name 5) [5, 6] (st6.map St.enc) (env7 (.val (.list (st6.map St.enc))) .no (.own (ones.map encP)) .no) = .next (env7 (.val (.list (st6.map St.enc))) .no (.own (plainL.map encP)) .no) := by
  have := loop_flat (body := evSs C lB2) (tg := .name 5) (kill := [5, 6]) (env := fun acc : List Pt => env7 (.val (.list (st6.map St.enc))) .no (.own (acc.map encP)) .no) (enc := St.enc) (f := fun a => st6.map fun b => [a, b]) (B := 100) st6 ones (by decide +kernel) fun a _ acc hl => by
    have inner := loop_flat (body := evSs C [.app 3 (.tup [.var 5, .var 6])]) (tg := .name 6) (kill := [6]) (env := fun acc : List Pt => env7 (.val (.list (st6.map St.enc))) .no (.own (acc.map encP)) (.val a.enc)) (enc := St.enc) (f := fun b => [[a, b]]) (B := 100) st6 acc (by
      have : (st6.map fun b => [a, b]).length = 6 := rfl
      rw [this] at hl
      exact hl) fun b _ acc hl => by
        have := app_p C a.enc b.enc (st6.map St.enc) (acc.map encP) (by rw [List.length_map]; simp at hl; omega)
        have e : (PyData.tuple [a.enc, b.enc]) = encP [a, b] := rfl
        rw [e] at this
        rw [List.map_append]
        exact this
    have e2 : (st6.flatMap fun b => [[a, b]]) = st6.map fun b => [a, b] := by simp [st6, ws2, ls3]
    rw [e2] at inner
    exact ll_two C _ _ _ _ inner
  exact this
theorem pps_fin (C : Nat → List D → Rs D) (W ss os zs ys : List D) (hW : W = [.str "in", .str "deep"]) (h1 : loopL (evSs C pB1) (.name 1) [1] W (env7 (.own []) .no .no .no) = .next (env7 (.own ss) .no .no .no)) (h2 : ev C pC1 (env7 (.val (.list ss)) .no .no .no) = .ok (.list os)) (h3 : loopL (evSs C pB2) (.name 5) [5] ss (env7 (.val (.list ss)) .no (.own os) .no) = .next (env7 (.val (.list ss)) .no (.own zs) .no)) (h4 : biD .sorted [.list zs] = .ok (.list ys)) : runB C f_plain_paths [] = .ok (.tuple ys) := by
  subst hW
  simp [runB_eq, f_plain_paths, b_plain_paths, h1, h2, h3, h4]
theorem all_fin (C : Nat → List D → Rs D) (W ss os zs ys : List D) (hW : W = [.str "in", .str "deep"]) (h1 : loopL (evSs C lB1) (.name 1) [1, 2] W (env7 (.own []) .no .no .no) = .next (env7 (.own ss) .no .no .no)) (h2 : ev C pC1 (env7 (.val (.list ss)) .no .no .no) = .ok (.list os)) (h3 : loopL (evSs C lB2) (.name 5) [5, 6] ss (env7 (.val (.list ss)) .no (.own os) .no) = .next (env7 (.val (.list ss)) .no (.own zs) .no)) (h4 : biD .sorted [.list zs] = .ok (.list ys)) : runB C f_law_all [] = .ok (.list ys) := by
  subst hW
  simp [runB_eq, f_law_all, b_law_all, h1, h2, h3, h4]
theorem pps_ev (k : Nat) : run tf (k + 1) 8 [] = .ok (.tuple (PL.map encP)) := by
  rw [r_pps]
  exact pps_fin _ _ _ _ _ _ rfl (loopA _) (pC1_ev _ .no) (loopB _) sorted_plain
theorem all_ev (k : Nat) : run tf (k + 1) 17 [] = .ok (.list (PL.map encP)) := by
  rw [r_all]
  exact all_fin _ _ _ _ _ _ rfl (loopC _) (pC1_ev _ .no) (loopD _) sorted_plain
end Pu.k14
/-! k14: dicts and sets of paths and finds -/
namespace Pu.k14
open PySem L2
section
variable {α : Type} {enc g : α → D} {key : α → NestedKey}
theorem pairsG : ∀ xs : List α, pairsD (xs.map fun x => .tuple [enc x, g x]) = some (xs.map fun x => (enc x, g x))
  | [] => rfl
  | x :: xs => by
    show (pairsD (xs.map fun x => .tuple [enc x, g x])).map _ = _
    rw [pairsG xs]; rfl
theorem keysG : ∀ {xs : List α}, (∀ x ∈ xs, keyD (enc x) = some (key x)) → keysD (xs.map fun x => (enc x, g x)) = some (xs.map key)
  | [], _ => rfl
  | x :: xs, h => by
    show (keyD (enc x)).bind (fun k => (keysD (xs.map fun x => (enc x, g x))).map (k :: ·)) = _
    rw [keysG fun y hy => h y (.tail _ hy), h x (.head _)]; rfl
theorem dctG {xs : List α} (h : ∀ x ∈ xs, keyD (enc x) = some (key x)) (hn : (xs.map key).Nodup) (hl : xs.length ≤ 16777216) : dctD (.list (xs.map fun x => .tuple [enc x, g x])) = .ok (xs.map fun x => (enc x, g x)) := by
  show (Rs.ofO (pairsD (xs.map fun x => .tuple [enc x, g x]))).bind _ = _
  rw [pairsG, Rs.ofO_some, Rs.bind_ok, keysG h, Rs.ofO_some, Rs.bind_ok, List.length_map]
  rw [decide_eq_true hn, Bool.true_and, decide_eq_true (show xs.length ≤ line from hl), Rs.guard_true]
theorem dixG {xs : List α} (h : ∀ x ∈ xs, keyD (enc x) = some (key x)) (hn : (xs.map key).Nodup) {x : α} (hx : x ∈ xs) : dixD (xs.map fun x => (enc x, g x)) (enc x) = .ok (g x) := by
  unfold dixD
  rw [h x hx, Rs.ofO_some, Rs.bind_ok]
  have : dlook (xs.map fun x => (enc x, g x)) (key x) = some (g x) := by
    induction xs with
    | nil => cases hx
    | cons y ys ih =>
      rw [List.map_cons, dlook]
      by_cases e : key y = key x
      · rw [if_pos (by rw [h y (.head _), e])]
        rcases List.mem_cons.mp hx with rfl | hx
        · rfl
        · rw [List.map_cons, List.nodup_cons] at hn
          exact absurd (by rw [e]; exact List.mem_map.mpr ⟨x, hx, rfl⟩) hn.1
      · rw [if_neg (by rw [h y (.head _)]; intro z; exact e (Option.some.inj z))]
        rcases List.mem_cons.mp hx with rfl | hx
        · exact absurd rfl e
        · rw [List.map_cons, List.nodup_cons] at hn
          exact ih (fun z hz => h z (.tail _ hz)) hn.2 hx
  rw [this]; rfl
end
def keyB (p : Pt) : NestedKey := .tup (p.map fun s => .tup [.text (wayS s.deep), .text s.let_, .tup []])
theorem key_plain {p : Pt} (h : p ∈ plainL) : keyD (encP p) = some (keyB p) := by
  obtain ⟨_, _, h3⟩ := plain_mem h
  have hk : ∀ r : Pt, (∀ s ∈ r, s ∈ st6) → nksOf (r.map St.enc) = some (r.map fun s => NestedKey.tup [.text (wayS s.deep), .text s.let_, .tup []]) := by
    intro r
    induction r with
    | nil => intro _; rw [List.map_nil, nksOf]; rfl
    | cons s r ih =>
      intro hr
      obtain ⟨_, ht⟩ := st6_good (hr s (.head _))
      obtain ⟨d, l, ts⟩ := s
      have ht : ts = [] := ht
      subst ht
      rw [List.map_cons, nksOf, ih fun s hs => hr s (.tail _ hs), St.encE, encL_nil, nkOf, nksOf, nksOf, nksOf, nksOf, nkOf, nkOf, nkOf, nksOf]
      rfl
  have hd : ∀ r : Pt, NestedKey.depthAll (r.map fun s => NestedKey.tup [.text (wayS s.deep), .text s.let_, .tup []]) ≤ 2 := by
    intro r
    induction r with
    | nil => exact Nat.zero_le _
    | cons s r ih =>
      rw [List.map_cons, NestedKey.depthAll]
      have : NestedKey.depth (.tup [.text (wayS s.deep), .text s.let_, .tup []]) = 2 := rfl
      omega
  unfold keyD
  have e : nkOf (encP p) = some (keyB p) := by rw [encP_eq, nkOf, hk p h3]; rfl
  have ht : isTupD (encP p) = true := by rw [encP_eq]; rfl
  have hdp : (keyB p).depth ≤ 8 := by
    have := hd p
    show NestedKey.depthAll _ + 1 ≤ 8
    omega
  rw [e, ht]
  simp [hdp]
theorem nodup_keys : (PL.map keyB).Nodup := by
  have h : (plainL.map keyB).Nodup := by decide +kernel
  exact (((srt_perm plainL).map keyB).nodup_iff).mpr h
/-! the set of what trees tell -/
def keyR (ts : List Tr) (p : Pt) : NestedKey := .tup (ts.map fun t => .tup ((findsT p t).map keyN))
def rowD (ts : List Tr) (p : Pt) : D := .tuple (ts.map fun t => encNs (findsT p t))
theorem nks_nodes : ∀ ns : List Node, nksOf (ns.map encN) = some (ns.map keyN)
  | [] => by rw [List.map_nil, nksOf]; rfl
  | n :: ns => by
    have e : nkOf (encN n) = some (keyN n) := by
      unfold encN
      rw [nkOf, nks_ints]; rfl
    rw [List.map_cons, nksOf, nks_nodes ns, e]; rfl
theorem nk_row (p : Pt) : ∀ ts : List Tr, nksOf (ts.map fun t => encNs (findsT p t)) = some (ts.map fun t => NestedKey.tup ((findsT p t).map keyN))
  | [] => by rw [List.map_nil, nksOf]; rfl
  | t :: ts => by
    have e : nkOf (encNs (findsT p t)) = some (.tup ((findsT p t).map keyN)) := by
      unfold encNs
      rw [nkOf, nks_nodes]; rfl
    rw [List.map_cons, nksOf, nk_row p ts, e]; rfl
theorem dep_keyN (n : Node) : (keyN n).depth = 1 := by
  show NestedKey.depthAll _ + 1 = 1
  rw [depthAll_nums]
theorem dep_nodes : ∀ ns : List Node, NestedKey.depthAll (ns.map keyN) ≤ 1
  | [] => Nat.zero_le _
  | n :: ns => by
    rw [List.map_cons, NestedKey.depthAll, dep_keyN]
    have := dep_nodes ns
    omega
theorem dep_row (p : Pt) : ∀ ts : List Tr, NestedKey.depthAll (ts.map fun t => NestedKey.tup ((findsT p t).map keyN)) ≤ 2
  | [] => Nat.zero_le _
  | t :: ts => by
    rw [List.map_cons, NestedKey.depthAll]
    have h1 := dep_row p ts
    have h2 := dep_nodes (findsT p t)
    have : NestedKey.depth (.tup ((findsT p t).map keyN)) = NestedKey.depthAll ((findsT p t).map keyN) + 1 := rfl
    omega
theorem num_nums : ∀ n : Node, numKs (n.map fun (k : Nat) => NestedKey.num (k : Int)) = true
  | [] => by rw [List.map_nil, numKs]
  | k :: n => by rw [List.map_cons, numKs, numK, num_nums n]; rfl
theorem num_nodes : ∀ ns : List Node, numKs (ns.map keyN) = true
  | [] => by rw [List.map_nil, numKs]
  | n :: ns => by
    have : numK (keyN n) = true := by unfold keyN; rw [numK, num_nums]
    rw [List.map_cons, numKs, this, num_nodes ns]; rfl
theorem num_row (p : Pt) : ∀ ts : List Tr, numKs (ts.map fun t => NestedKey.tup ((findsT p t).map keyN)) = true
  | [] => by rw [List.map_nil, numKs]
  | t :: ts => by rw [List.map_cons, numKs, numK, num_nodes, num_row p ts]; rfl
theorem key_row (ts : List Tr) (p : Pt) : keyD (rowD ts p) = some (keyR ts p) := by
  unfold keyD
  have e : nkOf (rowD ts p) = some (keyR ts p) := by unfold rowD keyR; rw [nkOf, nk_row]; rfl
  have hd : (keyR ts p).depth ≤ 8 := by
    have := dep_row p ts
    show NestedKey.depthAll _ + 1 ≤ 8
    omega
  have ht : isTupD (rowD ts p) = true := rfl
  rw [e, ht]
  simp [hd]
theorem krows_rows (ts : List Tr) : ∀ ps : List Pt, krows (ps.map (rowD ts)) = some (ps.map (keyR ts))
  | [] => rfl
  | p :: ps => by
    show (keyD (rowD ts p)).bind (fun k => if numK k then (krows (ps.map (rowD ts))).map (k :: ·) else none) = _
    have : numK (keyR ts p) = true := by unfold keyR; rw [numK, num_row]
    rw [key_row, krows_rows ts ps]
    show (if numK (keyR ts p) then _ else _) = _
    rw [if_pos this]; rfl
theorem lset_rows (ts : List Tr) : biD .lset [.list (PL.map (rowD ts))] = .ok (.int ((PL.map (keyR ts)).eraseDups.length : Int)) := by
  show (Rs.ofO (krows (PL.map (rowD ts)))).bind _ = _
  rw [krows_rows, Rs.ofO_some, Rs.bind_ok]
  have h1 := nodup_len (nodup_era (xs := PL.map (keyR ts)) _ (Nat.le_refl _)) fun x hx => (mem_era (xs := PL.map (keyR ts)) _ (Nat.le_refl _)).mp hx
  rw [List.length_map, len_PL] at h1
  rw [decide_eq_true (by omega), Rs.guard_true]
/-! by_finds, told_apart -/
abbrev bfC : E := .comp (.var 2) (.name 2) .plain [.call0 8] [.cmp .eq (.call 7 [.var 2, .var 0]) (.var 1)] [2]
theorem byf_fin (C : Nat → List D → Rs D) (t d : D) (xs : List D) (h : ev C bfC [.val t, .val d, .no] = .ok (.list xs)) : runB C f_by_finds [t, d] = .ok (.tuple xs) := by
  simp [runB_eq, f_by_finds, b_by_finds, h]
theorem eq_encNs (a b : List Node) : cmpD .eq (encNs a) (encNs b) = .ok (decide (a = b)) := by
  rw [cmp_eq (.inl (by have := depth_encNs a; omega)), eqv_enc (enc := encNs) (fun ns => by unfold encNs; rw [pd_tuple]; exact pds_map pd_encN ns) (fun a b h => map_inj (fun _ _ => encN_inj) (PyData.tuple.inj h))]
theorem finds_pl {p : Pt} (hp : p ∈ PL) {t : Tr} (ht : t.size ≤ 30) {k : Nat} (hk : 80 ≤ k) : run tf (k + 1) 7 [encP p, t.enc] = .ok (encNs (findsT p t)) := by
  have hp := mem_PL.mp hp
  have gp := plain_good hp
  have np := plain_num hp
  exact finds_ev (goodP_iff.mp gp).1 (lenP_mono (by decide) p (goodP_len p gp)) (by omega) (by omega)
theorem byf_ev {t : Tr} (ht : t.size ≤ 30) (ns : List Node) {k : Nat} (hk : 80 ≤ k) : run tf (k + 2) 9 [t.enc, encNs ns] = .ok (.tuple ((PL.filter fun p => decide (findsT p t = ns)).map encP)) := by
  rw [r_byf]
  refine byf_fin _ _ _ _ ?_
  have h8 := pps_ev k
  refine compF (xs := PL) (enc := encP) (g := encP) (p := fun p => decide (findsT p t = ns)) (ds := [.tuple (PL.map encP)]) ?_ rfl (fun p hp => ?_) fun p hp _ => ?_
  · generalize PL.map encP = Z at h8
    simp [h8]
  · have hf := finds_pl hp ht (k := k) hk
    have he := eq_encNs (findsT p t) ns
    generalize encNs (findsT p t) = F at hf he
    generalize encNs ns = N at he
    generalize encP p = P at hf
    generalize t.enc = T at hf
    simp [hf, he]
  · generalize encP p = P
    simp
abbrev inC : E := .comp (.call 7 [.var 2, .var 1]) (.name 1) .plain [.var 0] [] [1]
abbrev taC : E := .comp (.bi .tuple [inC]) (.name 2) .plain [.call0 8] [] [2]
theorem apart_fin (C : Nat → List D → Rs D) (ts d : D) (xs : List D) (h : ev C taC [.val ts, .no, .no] = .ok (.list xs)) (h2 : biD .lset [.list xs] = .ok d) : runB C f_told_apart [ts] = .ok d := by
  simp [runB_eq, f_told_apart, b_told_apart, h, h2]
theorem apart_ev {ts : List Tr} (ht : ∀ t ∈ ts, t.size ≤ 30) {k : Nat} (hk : 80 ≤ k) : run tf (k + 2) 10 [.tuple (ts.map Tr.enc)] = .ok (.int ((PL.map (keyR ts)).eraseDups.length : Int)) := by
  rw [r_apart]
  refine apart_fin _ _ _ _ ?_ (lset_rows ts)
  have h8 := pps_ev k
  refine compT (xs := PL) (enc := encP) (g := rowD ts) (ds := [.tuple (PL.map encP)]) ?_ rfl (fun p hp => ?_)
  · generalize PL.map encP = Z at h8
    simp [h8]
  · have hi : ev (run tf (k + 1)) inC [.val (.tuple (ts.map Tr.enc)), .no, .val (encP p)] = .ok (.list (ts.map fun t => encNs (findsT p t))) := by
      refine compT (xs := ts) (enc := Tr.enc) (ds := [.tuple (ts.map Tr.enc)]) (by simp) rfl fun t htm => ?_
      have hf := finds_pl hp (ht t htm) (k := k) hk
      generalize encNs (findsT p t) = F at hf
      generalize encP p = P at hf
      generalize t.enc = T at hf
      simp [hf]
    show _ = Rs.ok (PyData.tuple (ts.map fun t => encNs (findsT p t)))
    generalize (ts.map fun t => encNs (findsT p t)) = Z at hi
    generalize encP p = P at hi
    generalize (PyData.tuple (ts.map Tr.enc)) = T at hi
    simp [hi]
/-! one node alone -/
theorem kids_leaf (l : Str) (n : Node) : kidsAt (n, Tr.mk l []) = [] := rfl
theorem finds_leaf {p : Pt} (h : p ∈ plainL) (l : Str) : findsT p (.mk l []) = if p.length = 1 ∧ (p.map St.let_).head? = some l then [[]] else [] := by
  obtain ⟨h1, h2, h3⟩ := plain_mem h
  have hc : ∀ d : Bool, cands d [(([] : Node), Tr.mk l [])] = [([], .mk l [])] := fun d => by
    cases d with
    | false => rfl
    | true => simp [cands, allT, allF]
  match p, h1, h2, h3 with
  | [s], _, _, h3 =>
    obtain ⟨_, ht⟩ := st6_good (h3 s (.head _))
    obtain ⟨d, m, ts⟩ := s
    have ht : ts = [] := ht
    subst ht
    have hw : waysK [St.mk d m []] [([], Tr.mk l [])] = if m = l then [[([], .mk l [])]] else [] := by
      rw [waysK, show (St.mk d m []).deep = d from rfl, hc d]
      have hf : (St.mk d m []).fit (([] : Node), Tr.mk l []) = decide (m = l) := by
        rw [fits_eq]
        show (l == m && true) = _
        rw [Bool.and_true, str_beq, decide_eq_decide.mpr ⟨Eq.symm, Eq.symm⟩]
      rw [List.filter_cons, hf]
      by_cases e : m = l
      · rw [if_pos e, if_pos (decide_eq_true e)]
        simp [waysK]
      · rw [if_neg e, if_neg (by simp [e])]
        rfl
    unfold findsT findsK
    rw [hw]
    by_cases e : m = l
    · rw [if_pos e, if_pos ⟨rfl, congrArg some e⟩]
      exact setN_fix (ns := [[]]) (by simp) (by simp)
    · rw [if_neg e, if_neg (fun z => e (Option.some.inj z.2))]
      exact setN_fix (ns := []) (by simp) (by simp)
  | [s, r], _, _, h3 =>
    have hw : waysK [s, r] [([], Tr.mk l [])] = [] := by
      rw [waysK, hc, List.flatMap_eq_nil_iff]
      intro y hy
      have := List.mem_singleton.mp (List.mem_filter.mp hy).1
      subst this
      rw [kids_leaf, waysK]
      have : cands r.deep [] = [] := by cases r.deep <;> rfl
      rw [this]
      rfl
    unfold findsT findsK
    rw [hw, if_neg (fun z => absurd z.1 (by simp))]
    exact setN_fix (ns := []) (by simp) (by simp)
theorem two_a : (PL.filter fun p => decide (findsT p (.mk "a" []) = [[]])).length = 2 := by
  have h1 : (PL.filter fun p => decide (findsT p (.mk "a" []) = [[]])).length = (plainL.filter fun p => decide (findsT p (.mk "a" []) = [[]])).length := ((srt_perm plainL).filter _).length_eq
  have h2 : (plainL.filter fun p => decide (findsT p (.mk "a" []) = [[]])) = plainL.filter fun p => decide (p.length = 1 ∧ (p.map St.let_).head? = some ("a" : Str)) := by
    refine List.filter_congr fun p hp => ?_
    rw [finds_leaf hp]
    by_cases e : p.length = 1 ∧ (p.map St.let_).head? = some ("a" : Str)
    · rw [if_pos e, decide_eq_true e]; rfl
    · rw [if_neg e, decide_eq_false e]; rfl
  rw [h1, h2]
  decide +kernel
theorem one_d : (PL.map (keyR [.mk "d" []])).eraseDups.length = 1 := by
  have hall : ∀ p ∈ PL, keyR [.mk "d" []] p = .tup [.tup []] := fun p hp => by
    have hp := mem_PL.mp hp
    have hn : ¬ (p.length = 1 ∧ (p.map St.let_).head? = some ("d" : Str)) := fun z => by
      obtain ⟨h1, h2, h3⟩ := plain_mem hp
      cases p with
      | nil => cases h1
      | cons s r =>
        have e : s.let_ = "d" := Option.some.inj z.2
        have hl := (st6_good (h3 s (.head _))).1
        rw [e] at hl
        unfold letS at hl
        revert hl
        decide +kernel
    unfold keyR
    rw [List.map_singleton, finds_leaf hp, if_neg hn]
    rfl
  have hne : PL ≠ [] := fun z => by have := len_PL; rw [z] at this; cases this
  have h1 : (PL.map (keyR [.mk "d" []])).eraseDups.length ≤ [NestedKey.tup [.tup []]].length := nodup_len (nodup_era (xs := PL.map (keyR [.mk "d" []])) _ (Nat.le_refl _)) fun x hx => by
    obtain ⟨p, hp, rfl⟩ := List.mem_map.mp ((mem_era (xs := PL.map (keyR [.mk "d" []])) _ (Nat.le_refl _)).mp hx)
    rw [hall p hp]
    exact .head _
  have h2 : 1 ≤ (PL.map (keyR [.mk "d" []])).eraseDups.length := by
    obtain ⟨p, hp⟩ := List.exists_mem_of_ne_nil _ hne
    have := (mem_era (xs := PL.map (keyR [.mk "d" []])) _ (Nat.le_refl _)).mpr (List.mem_map.mpr ⟨p, hp, rfl⟩)
    exact List.length_pos_of_mem this
  have : [NestedKey.tup [.tup []]].length = 1 := rfl
  omega
end Pu.k14
/-! k14: the law -/
namespace Pu.k14
open PySem L2
abbrev no : List S := [.ret (.cst (.bool false))]
abbrev a1 : S := .set 1 (.call0 17)
abbrev a2 : S := .iff (.not (.call 12 [.call0 8, .bi .tuple [.var 1]])) no []
abbrev b3 : S := .set 3 (.bin .add (.cell 0 (.var 2)) (.bin .mul (.cst (.int 3)) (.var 2)))
abbrev b4 : S := .set 4 (.call 13 [.var 3, .bin .add (.cst (.int 1)) (.call 11 [.var 3, .cst (.int 9833), .cst (.int 10)])])
abbrev dcC : E := .comp (.tup [.var 6, .call 16 [.var 6, .var 4]]) (.name 6) .plain [.var 1] [] [6]
abbrev b5 : S := .dct 5 dcC
abbrev b7 : S := .set 7 (.dix 5 (.ix (.var 1) (.call 11 [.bin .add (.cell 0 (.cst (.int 6))) (.var 2), .cst (.int 9817), .cst (.int 42)])))
abbrev drC : E := .comp (.var 9) (.tup [.name 9, .name 10]) .plain [.call 14 [.var 4, .tup []]] [.cmp .eq (.call 11 [.bin .add (.var 3) (.bi .len [.var 9]), .cst (.int 9811), .cst (.int 2)]) (.cst (.int 0))] [9, 10]
abbrev b8 : S := .set 8 (.bi .tuple [drC])
abbrev duC : E := .comp (.var 6) (.name 6) .plain [.var 1] [.cmp .eq (.dix 5 (.var 6)) (.var 11)] [6]
abbrev dB : List S := [.iff (.not (.call 12 [.call 9 [.var 4, .var 11], .bi .tuple [duC]])) no []]
abbrev bl : S := .loop (.name 11) .plain [.tup [.var 7, .bi .tuple [.bi .sorted [.var 8]], .tup []]] dB [11]
abbrev trC : E := .comp (.call 13 [.bin .add (.bin .add (.cell 0 (.cst (.int 7))) (.bin .mul (.cst (.int 11)) (.var 13))) (.var 2), .cst (.int 10)]) (.name 13) .range1 [.bin .add (.cst (.int 1)) (.bin .mod (.var 2) (.cst (.int 3)))] [] [13]
abbrev b12 : S := .set 12 (.bi .tuple [trC])
abbrev riC : E := .comp (.call 16 [.var 6, .var 15]) (.name 15) .plain [.var 12] [] [15]
abbrev rwC : E := .comp (.bi .tuple [riC]) (.name 6) .plain [.var 1] [] [6]
abbrev b14 : S := .set 14 rwC
abbrev b15 : S := .iff (.not (.call 12 [.call 10 [.var 12], .bi .lset [.var 14]])) no []
abbrev wB : List S := [b3, b4, b5, b7, b8, bl, b12, b14, b15]
abbrev e1 : S := .ret (.and [.cmp .eq (.call 10 [.tup [.tup [.cst (.str "d"), .tup []]]]) (.cst (.int 1)), .cmp .eq (.bi .len [.call 9 [.tup [.cst (.str "a"), .tup []], .tup [.tup []]]]) (.cst (.int 2))])
abbrev kW : List Nat := [2, 3, 4, 5, 7, 8, 11, 12, 14]
theorem law_body : b_law = [a1, a2, .loop (.name 2) .range1 [.cst (.int 6)] wB kW, e1] := rfl
abbrev env (ns : List Int) (s1 s2 s3 s4 s5 s7 s8 s11 s12 s14 : Sl) : En := [.scr ns, s1, s2, s3, s4, s5, .no, s7, s8, .no, .no, s11, s12, .no, s14, .no]
abbrev envN (ns : List Int) (e : D) : En := env ns (.val e) .no .no .no .no .no .no .no .no .no
section
variable (C : Nat → List D → Rs D) (ns : List Int)
theorem y1 (e : D) (h : C 17 [] = .ok e) : evS C a1 (env ns .no .no .no .no .no .no .no .no .no .no) = .next (envN ns e) := by
  simp [h]
theorem y2 (xs : List D) (h : C 8 [] = .ok (.tuple xs)) (h2 : C 12 [.tuple xs, .tuple xs] = .ok (.bool true)) : evS C a2 (envN ns (.list xs)) = .next (envN ns (.list xs)) := by
  simp [h, h2]
theorem z3 (e : D) (J c : Int) (hJ : 0 ≤ J) (hc : c = ns.getD J.toNat 0 + 3 * J) : evS C b3 (env ns (.val e) (.val (.int J)) .no .no .no .no .no .no .no .no) = .next (env ns (.val e) (.val (.int J)) (.val (.int c)) .no .no .no .no .no .no .no) := by
  have s3 : small64 3 = true := by decide
  simp [-List.getD_eq_getElem?_getD, hJ, bin_mul_i (.inl s3), hc]
theorem z4 (e t : D) (s2 : Sl) (c x : Int) (h1 : C 11 [.int c, .int 9833, .int 10] = .ok (.int x)) (h2 : C 13 [.int c, .int (1 + x)] = .ok t) : evS C b4 (env ns (.val e) s2 (.val (.int c)) .no .no .no .no .no .no .no) = .next (env ns (.val e) s2 (.val (.int c)) (.val t) .no .no .no .no .no .no) := by
  simp [h1, h2]
theorem z5 (e t : D) (s2 s3 : Sl) (ds : List D) (kvs : List (D × D)) (h : ev C dcC (env ns (.val e) s2 s3 (.val t) .no .no .no .no .no .no) = .ok (.list ds)) (h2 : dctD (.list ds) = .ok kvs) : evS C b5 (env ns (.val e) s2 s3 (.val t) .no .no .no .no .no .no) = .next (env ns (.val e) s2 s3 (.val t) (.dct kvs) .no .no .no .no .no) := by
  simp [h, h2]
theorem z7 (e t p g : D) (J m x : Int) (s3 : Sl) (kvs : List (D × D)) (hx : x = ns.getD 6 0 + J) (h1 : C 11 [.int x, .int 9817, .int 42] = .ok (.int m)) (h2 : ixD e (.int m) = .ok p) (h3 : dixD kvs p = .ok g) : evS C b7 (env ns (.val e) (.val (.int J)) s3 (.val t) (.dct kvs) .no .no .no .no .no) = .next (env ns (.val e) (.val (.int J)) s3 (.val t) (.dct kvs) (.val g) .no .no .no .no) := by
  have e4 : (6 : Int).toNat = 6 := rfl
  have hd : ev C (.dix 5 (.ix (.var 1) (.call 11 [.bin .add (.cell 0 (.cst (.int 6))) (.var 2), .cst (.int 9817), .cst (.int 42)]))) (env ns (.val e) (.val (.int J)) s3 (.val t) (.dct kvs) .no .no .no .no .no) = .ok g := by
    rw [ev_dix (kvs := kvs) rfl]
    rw [hx] at h1
    simp [-List.getD_eq_getElem?_getD, e4, h1, h2, h3]
  rw [evS_set, hd]
  rfl
theorem z8 (e t g : D) (s2 s3 s5 : Sl) (xs : List D) (h : ev C drC (env ns (.val e) s2 s3 (.val t) s5 (.val g) .no .no .no .no) = .ok (.list xs)) : evS C b8 (env ns (.val e) s2 s3 (.val t) s5 (.val g) .no .no .no .no) = .next (env ns (.val e) s2 s3 (.val t) s5 (.val g) (.val (.tuple xs)) .no .no .no) := by
  simp [h]
theorem d_turn (e t d : D) (s2 s3 s5 s7 s8 : Sl) (xs : List D) (h1 : C 9 [t, d] = .ok (.tuple xs)) (h2 : ev C duC (env ns (.val e) s2 s3 (.val t) s5 s7 s8 (.val d) .no .no) = .ok (.list xs)) (h3 : C 12 [.tuple xs, .tuple xs] = .ok (.bool true)) : loopL (evSs C dB) (.name 11) [11] [d] (env ns (.val e) s2 s3 (.val t) s5 s7 s8 .no .no .no) = .next (env ns (.val e) s2 s3 (.val t) s5 s7 s8 .no .no .no) := by
  rw [loopL_cons]
  simp [h1, h2, h3]
theorem zl (e t g dr : D) (s2 s3 s5 : Sl) (ys : List D) (hs : biD .sorted [dr] = .ok (.list ys)) (l1 : loopL (evSs C dB) (.name 11) [11] [g] (env ns (.val e) s2 s3 (.val t) s5 (.val g) (.val dr) .no .no .no) = .next (env ns (.val e) s2 s3 (.val t) s5 (.val g) (.val dr) .no .no .no)) (l2 : loopL (evSs C dB) (.name 11) [11] [.tuple ys] (env ns (.val e) s2 s3 (.val t) s5 (.val g) (.val dr) .no .no .no) = .next (env ns (.val e) s2 s3 (.val t) s5 (.val g) (.val dr) .no .no .no)) (l3 : loopL (evSs C dB) (.name 11) [11] [.tuple []] (env ns (.val e) s2 s3 (.val t) s5 (.val g) (.val dr) .no .no .no) = .next (env ns (.val e) s2 s3 (.val t) s5 (.val g) (.val dr) .no .no .no)) :
    evS C bl (env ns (.val e) s2 s3 (.val t) s5 (.val g) (.val dr) .no .no .no) = .next (env ns (.val e) s2 s3 (.val t) s5 (.val g) (.val dr) .no .no .no) := by
  have he : evs C [.tup [.var 7, .bi .tuple [.bi .sorted [.var 8]], .tup []]] (env ns (.val e) s2 s3 (.val t) s5 (.val g) (.val dr) .no .no .no) = .ok [.tuple [g, .tuple ys, .tuple []]] := by simp [hs]
  rw [evS_loop, he, Rs.fl_ok, it_pl_t, Rs.fl_ok, loopL_one, l1, Fl.seq_next, loopL_one, l2, Fl.seq_next, l3]
theorem z12 (e : D) (s2 s3 s4 s5 s7 s8 : Sl) (xs : List D) (h : ev C trC (env ns (.val e) s2 s3 s4 s5 s7 s8 .no .no .no) = .ok (.list xs)) : evS C b12 (env ns (.val e) s2 s3 s4 s5 s7 s8 .no .no .no) = .next (env ns (.val e) s2 s3 s4 s5 s7 s8 .no (.val (.tuple xs)) .no) := by
  simp [h]
theorem z14 (e r : D) (s2 s3 s4 s5 s7 s8 : Sl) (xs : List D) (h : ev C rwC (env ns (.val e) s2 s3 s4 s5 s7 s8 .no (.val r) .no) = .ok (.list xs)) : evS C b14 (env ns (.val e) s2 s3 s4 s5 s7 s8 .no (.val r) .no) = .next (env ns (.val e) s2 s3 s4 s5 s7 s8 .no (.val r) (.val (.list xs))) := by
  simp [h]
theorem z15 (e r d : D) (s2 s3 s4 s5 s7 s8 : Sl) (xs : List D) (h1 : C 10 [r] = .ok d) (h2 : biD .lset [.list xs] = .ok d) (h3 : C 12 [d, d] = .ok (.bool true)) : evS C b15 (env ns (.val e) s2 s3 s4 s5 s7 s8 .no (.val r) (.val (.list xs))) = .next (env ns (.val e) s2 s3 s4 s5 s7 s8 .no (.val r) (.val (.list xs))) := by
  simp [h1, h2, h3]
theorem ye (e : D) (xs : List D) (h1 : C 10 [.tuple [.tuple [.str "d", .tuple []]]] = .ok (.int 1)) (h2 : C 9 [.tuple [.str "a", .tuple []], .tuple [.tuple []]] = .ok (.tuple xs)) (h3 : (xs.length : Int) = 2) : evSs C [e1] (envN ns e) = .ret (.bool true) := by
  simp [h1, h2, h3]
end
theorem sorted_encNs (ns : List Node) : biD .sorted [encNs ns] = .ok (.list ((srt encN ns).map encN)) :=
  sorted_enc (enc := encN) encsN.al (fun a h => by unfold encN at h; cases h) fun x _ => by have := depth_encN x; omega
theorem lfinds_pl {p : Pt} (hp : p ∈ PL) {t : Tr} (ht : t.size ≤ 10) {k : Nat} (hk : 80 ≤ k) : run tf (k + 1) 16 [encP p, t.enc] = .ok (encNs (findsT p t)) := by
  have hp := mem_PL.mp hp
  have gp := plain_good hp
  have np := plain_num hp
  exact lfinds_ev (n := 10) (N := 10) (L := 3) (K := 2) (by decide) ht ht (by decide) (by decide) (by decide) (by decide) gp (by omega)
theorem same_pl (ps : List Pt) (h : ∀ p ∈ ps, p ∈ PL) (k : Nat) (hk : 40 ≤ k) : run tf (k + 1) 12 [.tuple (ps.map encP), .tuple (ps.map encP)] = .ok (.bool true) :=
  same_ev 40 _ k (by rw [sd_tuple]; exact sds_map sd_encP _) (by
    have : PyData.depthAll (ps.map encP) ≤ 3 := depthAll_le fun x hx => by
      obtain ⟨p, hp, rfl⟩ := List.mem_map.mp hx
      exact plain_depth (mem_PL.mp (h p hp))
    show PyData.depthAll (ps.map encP) + 1 ≤ 40
    omega) hk (by decide)
theorem turn (ns : List Int) (j : Nat) (hj : j < 6) :
    loopL (evSs (run tf 140) wB) (.name 2) kW [.int (j : Int)] (envN ns (.list (PL.map encP))) = .next (envN ns (.list (PL.map encP))) := by
  obtain ⟨J, hJ⟩ : ∃ J : Int, J = (j : Int) := ⟨_, rfl⟩
  have hJ0 : 0 ≤ J := by omega
  rw [← hJ]
  obtain ⟨c, hc⟩ : ∃ c : Int, c = ns.getD J.toNat 0 + 3 * J := ⟨_, rfl⟩
  have m1 := mix_ev 139 c 9833 10 (by decide) (by decide) (by decide)
  have b1 := mixI_lt (c := c) (p := 9833) (m := 10) (by decide)
  generalize mixI c 9833 10 = x at m1 b1
  obtain ⟨t, et, tz, _⟩ := tree_gen 10 c (1 + x) 139 (by omega) (by omega) (by decide) (by decide)
  have ht : t.size ≤ 10 := by omega
  -- the dict
  have hE : ∀ (p : Pt), p ∈ PL → keyD (encP p) = some (keyB p) := fun p hp => key_plain (mem_PL.mp hp)
  have h5 : ev (run tf 140) dcC (env ns (.val (.list (PL.map encP))) (.val (.int J)) (.val (.int c)) (.val t.enc) .no .no .no .no .no .no) = .ok (.list (PL.map fun p => .tuple [encP p, encNs (findsT p t)])) := by
    refine compT (xs := PL) (enc := encP) (ds := [.list (PL.map encP)]) (by simp) rfl fun p hp => ?_
    have hf := lfinds_pl hp ht (k := 139) (by decide)
    generalize encNs (findsT p t) = F at hf
    generalize encP p = P at hf
    generalize t.enc = T at hf
    simp [hf]
  have h5d := dctG (enc := encP) (g := fun p => encNs (findsT p t)) hE nodup_keys (by rw [len_PL]; decide)
  have hdx : ∀ p ∈ PL, dixD (PL.map fun p => (encP p, encNs (findsT p t))) (encP p) = .ok (encNs (findsT p t)) := fun p hp => dixG (enc := encP) (g := fun p => encNs (findsT p t)) hE nodup_keys hp
  generalize (PL.map fun p => (encP p, encNs (findsT p t))) = kvs at h5d hdx
  -- the goal
  have m2 := mix_ev 139 (ns.getD 6 0 + J) 9817 42 (by decide) (by decide) (by decide)
  have b2 := mixI_lt (c := ns.getD 6 0 + J) (p := 9817) (m := 42) (by decide)
  generalize mixI (ns.getD 6 0 + J) 9817 42 = y at m2 b2
  obtain ⟨m, rfl⟩ : ∃ m : Nat, y = (m : Int) := ⟨y.toNat, by omega⟩
  obtain ⟨p0, hp0⟩ : ∃ p, PL[m]? = some p := ⟨_, List.getElem?_eq_getElem (by rw [len_PL]; omega)⟩
  have hm0 := List.mem_of_getElem? hp0
  have h7i : ixD (.list (PL.map encP)) (.int (m : Int)) = .ok (encP p0) := ix_nat_l (by rw [List.getElem?_map, hp0]; rfl)
  -- the drawn nodes
  have ln := lnodes_ev 10 t [] 139 ht (by decide) (by rw [List.length_nil]; omega)
  rw [encN_nil] at ln
  have h8 : ev (run tf 140) drC (env ns (.val (.list (PL.map encP))) (.val (.int J)) (.val (.int c)) (.val t.enc) (.dct kvs) (.val (encNs (findsT p0 t))) .no .no .no .no) = .ok (.list (((allT [] t).filter fun y => decide (mixI (c + (y.1.length : Int)) 9811 2 = 0)).map fun y => encN y.1)) := by
    rw [ev_comp]
    have hs : evs (run tf 140) [.call 14 [.var 4, .tup []]] (env ns (.val (.list (PL.map encP))) (.val (.int J)) (.val (.int c)) (.val t.enc) (.dct kvs) (.val (encNs (findsT p0 t))) .no .no .no .no) = .ok [.list ((allT [] t).map encY)] := by
      generalize (PyData.list ((allT [] t).map encY)) = L at ln
      generalize t.enc = T at ln
      simp [ln]
    rw [hs, Rs.bind_ok, it_pl_l, Rs.bind_ok, compL_F (enc := encY) (p := fun y => decide (mixI (c + (y.1.length : Int)) 9811 2 = 0)) (g := fun y => encN y.1) (fun y _ => by
      have m3 := mix_ev 139 (c + (y.1.length : Int)) 9811 2 (by decide) (by decide) (by decide)
      have hl : biD .len [encN y.1] = .ok (.int (y.1.length : Int)) := by unfold encN; rw [bi_len_t, List.length_map]
      generalize mixI (c + (y.1.length : Int)) 9811 2 = z at m3
      unfold encY
      generalize encN y.1 = N at hl
      generalize (y.1.length : Int) = M at hl m3
      by_cases hz : z = 0
      · simp [hl, m3, hz]
      · simp [hl, m3, hz])]
    rfl
  have e8 : (PyData.tuple (((allT [] t).filter fun y => decide (mixI (c + (y.1.length : Int)) 9811 2 = 0)).map fun y => encN y.1)) = encNs (((allT [] t).filter fun y => decide (mixI (c + (y.1.length : Int)) 9811 2 = 0)).map Prod.fst) := by
    unfold encNs
    rw [List.map_map]
    rfl
  have k8 := z8 (run tf 140) ns (.list (PL.map encP)) t.enc (encNs (findsT p0 t)) (.val (.int J)) (.val (.int c)) (.dct kvs) _ h8
  rw [e8] at k8
  generalize (((allT [] t).filter fun y => decide (mixI (c + (y.1.length : Int)) 9811 2 = 0)).map Prod.fst) = dr at k8
  -- each due
  have hdue : ∀ due : List Node, loopL (evSs (run tf 140) dB) (.name 11) [11] [encNs due] (env ns (.val (.list (PL.map encP))) (.val (.int J)) (.val (.int c)) (.val t.enc) (.dct kvs) (.val (encNs (findsT p0 t))) (.val (encNs dr)) .no .no .no) = .next (env ns (.val (.list (PL.map encP))) (.val (.int J)) (.val (.int c)) (.val t.enc) (.dct kvs) (.val (encNs (findsT p0 t))) (.val (encNs dr)) .no .no .no) := fun due => by
    refine d_turn (run tf 140) ns _ _ _ _ _ _ _ _ _ (byf_ev (by omega) due (k := 138) (by decide)) ?_ (same_pl _ (fun p hp => (List.mem_filter.mp hp).1) 139 (by decide))
    refine compF (xs := PL) (enc := encP) (g := encP) (p := fun p => decide (findsT p t = due)) (ds := [.list (PL.map encP)]) (by simp) rfl (fun p hp => ?_) fun p hp _ => ?_
    · have he := eq_encNs (findsT p t) due
      have hx := hdx p hp
      have hd : ev (run tf 140) (.dix 5 (.var 6)) ((killS (env ns (.val (.list (PL.map encP))) (.val (.int J)) (.val (.int c)) (.val t.enc) (.dct kvs) (.val (encNs (findsT p0 t))) (.val (encNs dr)) (.val (encNs due)) .no .no) [6]).set 6 (.val (encP p))) = .ok (encNs (findsT p t)) := by
        rw [ev_dix (kvs := kvs) rfl]
        generalize encNs (findsT p t) = F at hx
        generalize encP p = P at hx
        simp [hx]
      rw [ev_cmp, hd, Rs.bind_ok]
      generalize encNs (findsT p t) = F at he
      generalize encNs due = N at he
      generalize encP p = P
      simp [he]
    · generalize encP p = P
      simp
  have kl := zl (run tf 140) ns (.list (PL.map encP)) t.enc (encNs (findsT p0 t)) (encNs dr) (.val (.int J)) (.val (.int c)) (.dct kvs) _ (sorted_encNs dr) (hdue (findsT p0 t)) (hdue (srt encN dr)) (hdue [])
  -- the row of trees
  have hT := fun i : Nat => tree_gen 10 (ns.getD 7 0 + 11 * (i : Int) + J) 10 139 (by decide) (by decide) (by decide) (by decide)
  have hr3 : 0 ≤ J % 3 ∧ J % 3 < 3 := ⟨Int.emod_nonneg _ (by decide), Int.emod_lt_of_pos _ (by decide)⟩
  obtain ⟨R, hR⟩ : ∃ R : Nat, 1 + J % 3 = (R : Int) := ⟨(1 + J % 3).toNat, by omega⟩
  have h12 : ev (run tf 140) trC (env ns (.val (.list (PL.map encP))) (.val (.int J)) (.val (.int c)) (.val t.enc) (.dct kvs) (.val (encNs (findsT p0 t))) (.val (encNs dr)) .no .no .no) = .ok (.list (((List.range R).map fun i => (hT i).choose).map Tr.enc)) := by
    rw [List.map_map]
    have hmod : binD .mod (.int J) (.int 3) = .ok (.int (J % 3)) := rfl
    refine compT (xs := List.range R) (enc := fun (i : Nat) => .int (i : Int)) (ds := [.int (R : Int)]) (by simp [hmod, hR]) (it_r1n (by omega)) fun i _ => ?_
    have hti := (hT i).choose_spec.1
    have s11 : small64 11 = true := by decide
    have e4 : (7 : Int).toNat = 7 := rfl
    show _ = Rs.ok ((hT i).choose).enc
    generalize ((hT i).choose).enc = T at hti
    generalize (i : Int) = I at hti
    simp [-List.getD_eq_getElem?_getD, e4, bin_mul_i (.inl s11), hti]
  have hts : ∀ u ∈ (List.range R).map fun i => (hT i).choose, u.size ≤ 10 := fun u hu => by
    obtain ⟨i, _, rfl⟩ := List.mem_map.mp hu
    have := (hT i).choose_spec.2.1
    omega
  generalize ((List.range R).map fun i => (hT i).choose) = ts at h12 hts
  have h14 : ev (run tf 140) rwC (env ns (.val (.list (PL.map encP))) (.val (.int J)) (.val (.int c)) (.val t.enc) (.dct kvs) (.val (encNs (findsT p0 t))) (.val (encNs dr)) .no (.val (.tuple (ts.map Tr.enc))) .no) = .ok (.list (PL.map (rowD ts))) := by
    refine compT (xs := PL) (enc := encP) (g := rowD ts) (ds := [.list (PL.map encP)]) (by simp) rfl fun p hp => ?_
    have hi : ev (run tf 140) riC ((killS (env ns (.val (.list (PL.map encP))) (.val (.int J)) (.val (.int c)) (.val t.enc) (.dct kvs) (.val (encNs (findsT p0 t))) (.val (encNs dr)) .no (.val (.tuple (ts.map Tr.enc))) .no) [6]).set 6 (.val (encP p))) = .ok (.list (ts.map fun u => encNs (findsT p u))) := by
      refine compT (xs := ts) (enc := Tr.enc) (ds := [.tuple (ts.map Tr.enc)]) (by simp) rfl fun u hu => ?_
      have hf := lfinds_pl hp (hts u hu) (k := 139) (by decide)
      generalize encNs (findsT p u) = F at hf
      generalize encP p = P at hf
      generalize u.enc = U at hf
      simp [hf]
    show _ = Rs.ok (PyData.tuple (ts.map fun u => encNs (findsT p u)))
    rw [ev_bi, evs_cons, evs_nil, hi]
    rfl
  have k15 := apart_ev (ts := ts) (fun u hu => by have := hts u hu; omega) (k := 138) (by decide)
  have k15s := same_ev 40 (.int ((PL.map (keyR ts)).eraseDups.length : Int)) 139 rfl (Nat.zero_le _) (by decide) (by decide)
  have hall := seq_next (z3 (run tf 140) ns (.list (PL.map encP)) J c hJ0 hc) (seq_next (z4 (run tf 140) ns _ _ (.val (.int J)) c x m1 et) (seq_next (z5 (run tf 140) ns _ _ (.val (.int J)) (.val (.int c)) _ kvs h5 h5d) (seq_next (z7 (run tf 140) ns _ _ _ _ J _ _ (.val (.int c)) kvs rfl m2 h7i (hdx p0 hm0)) (seq_next k8 (seq_next kl (seq_next (z12 (run tf 140) ns _ _ _ _ _ _ _ _ h12) (seq_next (z14 (run tf 140) ns _ _ _ _ _ _ _ _ _ h14) (seq_next (z15 (run tf 140) ns _ _ _ _ _ _ _ _ _ _ k15 (lset_rows ts) k15s) evSs_nil))))))))
  rw [loopL_cons]
  have e : bindT (.name 2) (.int J) (envN ns (.list (PL.map encP))) = some (env ns (.val (.list (PL.map encP))) (.val (.int J)) .no .no .no .no .no .no .no .no) := rfl
  rw [e, Rs.ofO_some, Rs.fl_ok, hall, Fl.seq_next, loopL_nil]
  rfl
theorem law_true (ns : List Int) (_ : ns.length ≤ 63) : evSs (run tf 140) d_law.fd.body (.scr ns :: List.replicate (d_law.fd.nn - 1) .no) = .ret (.bool true) := by
  have hl := loop_keep (body := evSs (run tf 140) wB) (tg := .name 2) (kill := kW) (I := fun ρ => ρ = envN ns (.list (PL.map encP))) (enc := fun (i : Nat) => .int (i : Int)) (List.range 6) _ rfl (fun j hj ρ hI => by
    subst hI
    exact ⟨_, turn ns j (List.mem_range.mp hj), rfl⟩)
  obtain ⟨ρ', h1, rfl⟩ := hl
  have hr := it_r1n (n := 6) (by decide)
  rw [show ((6 : Nat) : Int) = 6 from rfl] at hr
  show evSs (run tf 140) b_law (env ns .no .no .no .no .no .no .no .no .no .no) = _
  rw [law_body]
  refine seq_next (y1 (run tf 140) ns _ (all_ev 139)) (seq_next (y2 (run tf 140) ns _ (pps_ev 139) (same_pl PL (fun _ h => h) 139 (by decide))) (seq_next (ρ' := envN ns (.list (PL.map encP))) ?_ ?_))
  · rw [evS_loop]
    simp only [evs_cons, evs_nil, ev_cst, Rs.bind_ok, Rs.fl_ok, hr, h1]
  · have q1 := apart_ev (ts := [.mk "d" []]) (fun u hu => by rw [List.mem_singleton.mp hu]; decide) (k := 138) (by decide)
    rw [one_d] at q1
    have q2 := byf_ev (t := .mk "a" []) (by decide) [[]] (k := 138) (by decide)
    have ed : (PyData.tuple ([Tr.mk "d" []].map Tr.enc)) = .tuple [.tuple [.str "d", .tuple []]] := by
      rw [List.map_singleton, enc_eq]; rfl
    have ea : (Tr.mk "a" []).enc = .tuple [.str "a", .tuple []] := by rw [enc_eq]; rfl
    have en : encNs [[]] = .tuple [.tuple []] := rfl
    rw [ed] at q1
    rw [ea, en] at q2
    exact ye (run tf 140) ns _ _ q1 q2 (by rw [List.length_map, two_a]; rfl)
end Pu.k14
open PySem PySem.W PyProof.Rows
set_option maxRecDepth 100000 in
set_option maxHeartbeats 0 in
theorem PySem.Challenge.cw_treefinds_k14_by_finds_holds : PySem.Challenge.rw_treefinds_k14_by_finds.Holds := by
  w_on; o_law; k_head; (case hw => w_witness2)
  k_fill
  refine Pu.walk (l := PySem.Challenge.rw_treefinds_k14_by_finds) (T := Pu.k14.tab) (Tf := Pu.k14.tf) (ds := Pu.k14.defs) (d := Pu.k14.d_law) (nn := 140) (nf := 60) (x := "_law_script") rfl rfl rfl (fun w h Y => PySem.W.kIn_of Y) ⟨rfl, by decide, by decide⟩ (by decide +kernel) ?F Pu.k14.law_true
  case F =>
    intro w mg h KX G
    have e0 : Pu.DOkX KX mg "nodes" (Pu.k14.top 4) ["tree"] := by
      refine' Pu.dok_mk KX G ?a ?l ?c ?k ?b; (case a => k_is); (case l => k_is); (case c => k_is); (case k => k_is); (case b => exact fun _ _ _ _ _ _ us hl => match us, hl with | [_], _ => rfl)
    have e1 : Pu.DOkX KX mg "tree_at" (Pu.k14.top 5) ["tree", "node"] := by
      refine' Pu.dok_mk KX G ?a ?l ?c ?k ?b; (case a => k_is); (case l => k_is); (case c => k_is); (case k => k_is); (case b => exact fun _ _ _ _ _ _ us hl => match us, hl with | [_, _], _ => rfl)
    have e2 : Pu.DOkX KX mg "kids_of" (Pu.k14.top 6) ["tree", "node"] := by
      refine' Pu.dok_mk KX G ?a ?l ?c ?k ?b; (case a => k_is); (case l => k_is); (case c => k_is); (case k => k_is); (case b => exact fun _ _ _ _ _ _ us hl => match us, hl with | [_, _], _ => rfl)
    have e3 : Pu.DOkX KX mg "all_below" (Pu.k14.top 7) ["tree", "node"] := by
      refine' Pu.dok_mk KX G ?a ?l ?c ?k ?b; (case a => k_is); (case l => k_is); (case c => k_is); (case k => k_is); (case b => exact fun _ _ _ _ _ _ us hl => match us, hl with | [_, _], _ => rfl)
    have e4 : Pu.DOkX KX mg "places" (Pu.k14.top 9) ["step", "tree", "node"] := by
      refine' Pu.dok_mk KX G ?a ?l ?c ?k ?b; (case a => k_is); (case l => k_is); (case c => k_is); (case k => k_is); (case b => exact fun _ _ _ _ _ _ us hl => match us, hl with | [_, _, _], _ => rfl)
    have e5 : Pu.DOkX KX mg "by_step" (Pu.k14.top 10) ["step", "tree", "node"] := by
      refine' Pu.dok_mk KX G ?a ?l ?c ?k ?b; (case a => k_is); (case l => k_is); (case c => k_is); (case k => k_is); (case b => exact fun _ _ _ _ _ _ us hl => match us, hl with | [_, _, _], _ => rfl)
    have e6 : Pu.DOkX KX mg "ways_from" (Pu.k14.top 11) ["path", "tree", "node"] := by
      refine' Pu.dok_mk KX G ?a ?l ?c ?k ?b; (case a => k_is); (case l => k_is); (case c => k_is); (case k => k_is); (case b => exact fun _ _ _ _ _ _ us hl => match us, hl with | [_, _, _], _ => rfl)
    have e7 : Pu.DOkX KX mg "finds" (Pu.k14.top 12) ["path", "tree"] := by
      refine' Pu.dok_mk KX G ?a ?l ?c ?k ?b; (case a => k_is); (case l => k_is); (case c => k_is); (case k => k_is); (case b => exact fun _ _ _ _ _ _ us hl => match us, hl with | [_, _], _ => rfl)
    have e8 : Pu.DOkX KX mg "plain_paths" (Pu.k14.top 16) [] := by
      refine' Pu.dok_mk KX G ?a ?l ?c ?k ?b; (case a => k_is); (case l => k_is); (case c => k_is); (case k => k_is); (case b => exact fun _ _ _ _ _ _ us hl => match us, hl with | [], _ => rfl)
    have e9 : Pu.DOkX KX mg "by_finds" (Pu.k14.top 17) ["tree", "some"] := by
      refine' Pu.dok_mk KX G ?a ?l ?c ?k ?b; (case a => k_is); (case l => k_is); (case c => k_is); (case k => k_is); (case b => exact fun _ _ _ _ _ _ us hl => match us, hl with | [_, _], _ => rfl)
    have e10 : Pu.DOkX KX mg "told_apart" (Pu.k14.top 18) ["trees"] := by
      refine' Pu.dok_mk KX G ?a ?l ?c ?k ?b; (case a => k_is); (case l => k_is); (case c => k_is); (case k => k_is); (case b => exact fun _ _ _ _ _ _ us hl => match us, hl with | [_], _ => rfl)
    have e11 : Pu.DOkX KX mg "_law_mix" (Pu.k14.top 21) ["_law_cell_here", "_law_prime", "_law_many"] := by
      refine' Pu.dok_mk KX G ?a ?l ?c ?k ?b; (case a => k_is); (case l => k_is); (case c => k_is); (case k => k_is); (case b => exact fun _ _ _ _ _ _ us hl => match us, hl with | [_, _, _], _ => rfl)
    have e12 : Pu.DOkX KX mg "_law_same" (Pu.k14.top 22) ["_law_found", "_law_due"] := by
      refine' Pu.dok_mk KX G ?a ?l ?c ?k ?b; (case a => k_is); (case l => k_is); (case c => k_is); (case k => k_is); (case b => exact fun _ _ _ _ _ _ us hl => match us, hl with | [_, _], _ => rfl)
    have e13 : Pu.DOkX KX mg "_law_tree" (Pu.k14.top 23) ["_law_cell_here", "_law_many"] := by
      refine' Pu.dok_mk KX G ?a ?l ?c ?k ?b; (case a => k_is); (case l => k_is); (case c => k_is); (case k => k_is); (case b => exact fun _ _ _ _ _ _ us hl => match us, hl with | [_, _], _ => rfl)
    have e14 : Pu.DOkX KX mg "_law_nodes" (Pu.k14.top 26) ["_law_tree_here", "_law_node"] := by
      refine' Pu.dok_mk KX G ?a ?l ?c ?k ?b; (case a => k_is); (case l => k_is); (case c => k_is); (case k => k_is); (case b => exact fun _ _ _ _ _ _ us hl => match us, hl with | [_, _], _ => rfl)
    have e15 : Pu.DOkX KX mg "_law_ways" (Pu.k14.top 27) ["_law_path_here", "_law_kids"] := by
      refine' Pu.dok_mk KX G ?a ?l ?c ?k ?b; (case a => k_is); (case l => k_is); (case c => k_is); (case k => k_is); (case b => exact fun _ _ _ _ _ _ us hl => match us, hl with | [_, _], _ => rfl)
    have e16 : Pu.DOkX KX mg "_law_finds" (Pu.k14.top 28) ["_law_path_here", "_law_tree_here"] := by
      refine' Pu.dok_mk KX G ?a ?l ?c ?k ?b; (case a => k_is); (case l => k_is); (case c => k_is); (case k => k_is); (case b => exact fun _ _ _ _ _ _ us hl => match us, hl with | [_, _], _ => rfl)
    have e17 : Pu.DOkX KX mg "_law_all" (Pu.k14.top 29) [] := by
      refine' Pu.dok_mk KX G ?a ?l ?c ?k ?b; (case a => k_is); (case l => k_is); (case c => k_is); (case k => k_is); (case b => exact fun _ _ _ _ _ _ us hl => match us, hl with | [], _ => rfl)
    have ecell : Pu.DOkX KX mg "_law_cell" (Pu.k14.top 20) ["_law_script", "_law_k"] := by
      refine' Pu.dok_mk KX G ?a ?l ?c ?k ?b; (case a => k_is); (case l => k_is); (case c => k_is); (case k => k_is); (case b => exact fun _ _ _ _ _ _ us hl => match us, hl with | [_, _], _ => rfl)
    have elaw : Pu.LOkX KX mg "law" "_law_script" (Pu.k14.top 30) := by
      refine' Pu.lok_mk KX G ?a ?l ?c ?k ?b; (case a => k_is); (case l => k_is); (case c => k_is); (case k => k_is); (case b => exact fun _ _ _ _ _ _ u => rfl)
    have z0 : mg "all" = none := PySem.W.mg_none_of KX G (by k_is)
    have z1 : mg "bool" = none := PySem.W.mg_none_of KX G (by k_is)
    have z2 : mg "dict" = none := PySem.W.mg_none_of KX G (by k_is)
    have z3 : mg "enumerate" = none := PySem.W.mg_none_of KX G (by k_is)
    have z4 : mg "int" = none := PySem.W.mg_none_of KX G (by k_is)
    have z5 : mg "isinstance" = none := PySem.W.mg_none_of KX G (by k_is)
    have z6 : mg "len" = none := PySem.W.mg_none_of KX G (by k_is)
    have z7 : mg "list" = none := PySem.W.mg_none_of KX G (by k_is)
    have z8 : mg "range" = none := PySem.W.mg_none_of KX G (by k_is)
    have z9 : mg "set" = none := PySem.W.mg_none_of KX G (by k_is)
    have z10 : mg "sorted" = none := PySem.W.mg_none_of KX G (by k_is)
    have z11 : mg "str" = none := PySem.W.mg_none_of KX G (by k_is)
    have z12 : mg "tuple" = none := PySem.W.mg_none_of KX G (by k_is)
    have z13 : mg "zip" = none := PySem.W.mg_none_of KX G (by k_is)
    have g0 : Pu.GlOkX KX mg "PATH_LETTERS" (.str "abc") := by
      refine' Pu.gl_str KX G ?a ?e; (case a => k_is); (case e => decide +kernel)
    have g1 : Pu.GlOkX KX mg "WAYS" (.tuple [.str "in", .str "deep"]) := by
      refine' Pu.gl_strs KX G [("in", _), ("deep", _)] ?a ?l ?e ?hz ?hk; (case a => k_is); (case l => k_is); (case e => rfl); (case hz => decide); (case hk => decide +kernel)
    have x0 : Pu.ExOkX KX mg "NoNode" := by
      refine' Pu.exc_mk KX G ?xa ?xq ?xk ?xb ?xt ?xd; (case xa => k_is); (case xq => k_exc); (case xk => k_is); (case xb => k_is); (case xt => k_is); (case xd => decide +kernel)
    refine ⟨⟨Pu.allL_mem (l := Pu.k14.tab.bl) ⟨z0, z1, z2, z3, z4, z5, z6, z7, z8, z9, z10, z11, z12, z13, trivial⟩,
      Pu.allL_look (l := Pu.k14.tab.fns) (p := fun p => ∃ d ∈ Pu.k14.defs, d.nm = p.2 ∧ d.fd.io = false ∧ Pu.k14.tf p.1 = some d.fd) ⟨⟨Pu.k14.d_nodes, .head _, rfl, rfl, rfl⟩, ⟨Pu.k14.d_tree_at, .tail _ (.head _), rfl, rfl, rfl⟩, ⟨Pu.k14.d_kids_of, .tail _ (.tail _ (.head _)), rfl, rfl, rfl⟩, ⟨Pu.k14.d_all_below, .tail _ (.tail _ (.tail _ (.head _))), rfl, rfl, rfl⟩, ⟨Pu.k14.d_places, .tail _ (.tail _ (.tail _ (.tail _ (.head _)))), rfl, rfl, rfl⟩, ⟨Pu.k14.d_by_step, .tail _ (.tail _ (.tail _ (.tail _ (.tail _ (.head _))))), rfl, rfl, rfl⟩, ⟨Pu.k14.d_ways_from, .tail _ (.tail _ (.tail _ (.tail _ (.tail _ (.tail _ (.head _)))))), rfl, rfl, rfl⟩, ⟨Pu.k14.d_finds, .tail _ (.tail _ (.tail _ (.tail _ (.tail _ (.tail _ (.tail _ (.head _))))))), rfl, rfl, rfl⟩, ⟨Pu.k14.d_plain_paths, .tail _ (.tail _ (.tail _ (.tail _ (.tail _ (.tail _ (.tail _ (.tail _ (.head _)))))))), rfl, rfl, rfl⟩, ⟨Pu.k14.d_by_finds, .tail _ (.tail _ (.tail _ (.tail _ (.tail _ (.tail _ (.tail _ (.tail _ (.tail _ (.head _))))))))), rfl, rfl, rfl⟩, ⟨Pu.k14.d_told_apart, .tail _ (.tail _ (.tail _ (.tail _ (.tail _ (.tail _ (.tail _ (.tail _ (.tail _ (.tail _ (.head _)))))))))), rfl, rfl, rfl⟩, ⟨Pu.k14.d_law_mix, .tail _ (.tail _ (.tail _ (.tail _ (.tail _ (.tail _ (.tail _ (.tail _ (.tail _ (.tail _ (.tail _ (.head _))))))))))), rfl, rfl, rfl⟩, ⟨Pu.k14.d_law_same, .tail _ (.tail _ (.tail _ (.tail _ (.tail _ (.tail _ (.tail _ (.tail _ (.tail _ (.tail _ (.tail _ (.tail _ (.head _)))))))))))), rfl, rfl, rfl⟩, ⟨Pu.k14.d_law_tree, .tail _ (.tail _ (.tail _ (.tail _ (.tail _ (.tail _ (.tail _ (.tail _ (.tail _ (.tail _ (.tail _ (.tail _ (.tail _ (.head _))))))))))))), rfl, rfl, rfl⟩, ⟨Pu.k14.d_law_nodes, .tail _ (.tail _ (.tail _ (.tail _ (.tail _ (.tail _ (.tail _ (.tail _ (.tail _ (.tail _ (.tail _ (.tail _ (.tail _ (.tail _ (.head _)))))))))))))), rfl, rfl, rfl⟩, ⟨Pu.k14.d_law_ways, .tail _ (.tail _ (.tail _ (.tail _ (.tail _ (.tail _ (.tail _ (.tail _ (.tail _ (.tail _ (.tail _ (.tail _ (.tail _ (.tail _ (.tail _ (.head _))))))))))))))), rfl, rfl, rfl⟩, ⟨Pu.k14.d_law_finds, .tail _ (.tail _ (.tail _ (.tail _ (.tail _ (.tail _ (.tail _ (.tail _ (.tail _ (.tail _ (.tail _ (.tail _ (.tail _ (.tail _ (.tail _ (.tail _ (.head _)))))))))))))))), rfl, rfl, rfl⟩, ⟨Pu.k14.d_law_all, .tail _ (.tail _ (.tail _ (.tail _ (.tail _ (.tail _ (.tail _ (.tail _ (.tail _ (.tail _ (.tail _ (.tail _ (.tail _ (.tail _ (.tail _ (.tail _ (.tail _ (.head _))))))))))))))))), rfl, rfl, rfl⟩, trivial⟩,
      fun _ _ z => (nomatch z),
      fun _ _ _ z => (nomatch z),
      fun _ z => (nomatch z),
      fun _ z => (nomatch z),
      Pu.allL_mem (l := Pu.k14.defs) ⟨Pu.k14.ok_nodes, Pu.k14.ok_tree_at, Pu.k14.ok_kids_of, Pu.k14.ok_all_below, Pu.k14.ok_places, Pu.k14.ok_by_step, Pu.k14.ok_ways_from, Pu.k14.ok_finds, Pu.k14.ok_plain_paths, Pu.k14.ok_by_finds, Pu.k14.ok_told_apart, Pu.k14.ok_law_mix, Pu.k14.ok_law_same, Pu.k14.ok_law_tree, Pu.k14.ok_law_nodes, Pu.k14.ok_law_ways, Pu.k14.ok_law_finds, Pu.k14.ok_law_all, trivial⟩,
      Pu.allL_mem (l := Pu.k14.defs) (p := fun d => Pu.DOkX KX mg d.nm d.st d.ps) ⟨e0, e1, e2, e3, e4, e5, e6, e7, e8, e9, e10, e11, e12, e13, e14, e15, e16, e17, trivial⟩,
      Pu.allL_look (l := Pu.k14.tab.gls) (p := fun p => Pu.GlOkX KX mg p.1 p.2) ⟨g0, g1, trivial⟩,
      fun x z => by
        cases z
        exact ⟨Pu.k14.top 20, ["_law_script", "_law_k"], ecell, by decide +kernel, rfl, by decide +kernel, z6⟩,
      Pu.allL_mem (l := Pu.k14.tab.exs) (p := fun x => Pu.ExOkX KX mg x) ⟨x0, trivial⟩⟩, elaw⟩
