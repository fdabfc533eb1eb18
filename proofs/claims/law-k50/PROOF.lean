import PyProof.Rows.All
import Wide.All
import OpenK.AllK
import Wide.FinOn
import PyProof.EqAt
import PyProof.EqKinds
import PyProof.TupleCall
import Open.SpecLaws
import KE.OsGo
import PySem.Challenge.RW_safesums_k50_expressions
import HandS.ForMost
import HandS.ForExc
import HandS.IsInst
import HandS.ExcIs
import HandS.CallSlots
import HandS.Deep
import HandS.Conv
import HandS.TupAny
import HandS.TupMul
import HandS.Style
import HandS.Zip
import HandS.Wide
import HandS.SortInts
import HandS.EndBits
import HandS.Lambda
import HandS.Dict
import HandS.DictComp
import KE.KDictPairs
import KE.KTupSum
import PyProof.TupleOfSeq
import HandS.SetFor
import HandS.Strs
import HandS.FltList
import HandS.TupLe
import KE.GoesEnum
import HandS.Iter
import KE.SortKeyHeap
import HandS.SortKw
import HandS.EndTab
set_option Elab.async false
set_option linter.all false
set_option maxRecDepth 100000
set_option maxHeartbeats 4000000
set_option maxRecDepth 100000
set_option maxHeartbeats 4000000
/-! SSA: data, a small syntax, its interpreter -/
namespace SS
open PySem PySem.Spec PyProof.Rows L2

/-- Python data -/
inductive D where
  | non | bl (b : Bool) | int (i : Int) | str (x : Str)
  | tup (xs : List D) | lst (xs : List D)
  | fn (i : Nat)
  | scr (ns : List Int)
  | dct (ks : List (List Int)) (vs : List D)
  | dcs (ks : List Str) (vs : List D)
  deriving Inhabited

/-- results -/
inductive R (α : Type) where
  | ok (a : α) | err (c : Nat) | bad
def R.bind {α β : Type} (x : R α) (f : α → R β) : R β := match x with | .ok a => f a | .err c => .err c | .bad => .bad
@[simp] theorem R.bind_ok {α β : Type} (a : α) (f : α → R β) : (R.ok a).bind f = f a := rfl
@[simp] theorem R.bind_err {α β : Type} (c : Nat) (f : α → R β) : (R.err c : R α).bind f = .err c := rfl
@[simp] theorem R.bind_bad {α β : Type} (f : α → R β) : (R.bad : R α).bind f = .bad := rfl

abbrev Ev := List (Option D)
abbrev DB := D × Bool
abbrev Orc := Nat → List D → R DB

inductive Bop where | add | sub | mul | fdiv | mod | pow | shl
  deriving DecidableEq
inductive Cop where | eq | ne | lt | le | gt | ge | isin | notin
  deriving DecidableEq
inductive Ty where | int | bool | str | tuple | list
  deriving DecidableEq
inductive Prim where
  | len | min | max | sum | all | any | tuple | list | sorted | int | isi (t : Ty) | str | dict
  deriving DecidableEq
inductive Tg where
  | nm (i : Nat) | tp2 (a b : Tg) | tp3 (a b c : Tg)

mutual
inductive E where
  | var (i : Nat)
  | cst (d : D)
  | tup (es : Es)
  | lst (es : Es)
  | bin (o : Bop) (a b : E)
  | neg (a : E)
  | cmp (o : Cop) (a b : E)
  | chain (o p : Cop) (a b c : E)
  | isc (d : D) (pos : Bool) (a : E)
  | and (a b : E) | or (a b : E) | not (a : E)
  | ifx (c a b : E)
  | ix (a b : E)
  | slA (a lo : E) | slB (a hi : E) | slC (a lo hi : E)
  | call (f : Nat) (es : Es)
  | callv (f : E) (es : Es)
  | prim (p : Prim) (es : Es)
  | rng (t : Bool) (s : Sr)
  | srs (e : E)
  | srl (e : E)
  | dnew
  | rev (a : E)
  | comp (elt : E) (tg : Tg) (src : Sr) (own : List Nat)
  | compf (elt : E) (tg : Tg) (src : Sr) (test : E) (own : List Nat)
  | comp2 (elt : E) (tg : Tg) (src : Sr) (tg1 : Tg) (src1 : Sr) (own own1 : List Nat)
inductive Es where
  | nil | cons (e : E) (es : Es)
inductive Sr where
  | seq (e : E) | rg1 (e : E) | rg2 (a b : E) | zip (a b : E) | enum (a : E)
end

/-! ### operations on data -/
def szl : Nat := 16777216
def okIf {α : Type} (c : Bool) (a : α) : R α := if c = true then .ok a else .bad
@[simp] theorem okIf_true {α : Type} (a : α) : okIf true a = .ok a := rfl

def toPy : D → PyData
  | .non => .none | .bl b => .bool b | .int i => .int i | .str x => .str x
  | .tup xs => .tuple (toPys xs) | .lst xs => .list (toPys xs)
  | .fn _ => .none | .scr _ => .none | .dct _ _ => .none | .dcs _ _ => .none
where toPys : List D → List PyData
  | [] => [] | d :: ds => toPy d :: toPys ds

mutual
/-- no function within, of small depth -/
def dat : Nat → D → Bool
  | _, .non => true | _, .bl _ => true | _, .int _ => true | _, .str x => PyData.strOk x
  | 0, .tup _ => false | 0, .lst _ => false
  | n + 1, .tup xs => dats n xs | n + 1, .lst xs => dats n xs
  | _, .fn _ => false | _, .scr _ => false | _, .dct _ _ => false | _, .dcs _ _ => false
def dats : Nat → List D → Bool
  | _, [] => true
  | n, d :: ds => dat n d && dats n ds
end

mutual
def eqD : D → D → Bool
  | .non, .non => true
  | .bl a, .bl b => a == b
  | .bl a, .int j => (if a then 1 else 0) == j
  | .int i, .bl b => i == (if b then 1 else 0)
  | .int i, .int j => i == j
  | .str x, .str y => x == y
  | .tup xs, .tup ys => eqDs xs ys
  | .lst xs, .lst ys => eqDs xs ys
  | _, _ => false
def eqDs : List D → List D → Bool
  | [], [] => true
  | x :: xs, y :: ys => eqD x y && eqDs xs ys
  | [], _ :: _ => false
  | _ :: _, [] => false
end

/-- lists of ints -/
def ints? : List D → Option (List Int)
  | [] => some []
  | .int i :: r => (ints? r).map (i :: ·)
  | _ :: _ => none
def bls? : List D → Option (List Bool)
  | [] => some []
  | .bl i :: r => (bls? r).map (i :: ·)
  | _ :: _ => none

def tups? : List D → Option (List (List Int))
  | [] => some []
  | .tup xs :: r => (ints? xs).bind fun q => (tups? r).map (q :: ·)
  | _ :: _ => none
def minT (m : List Int) (l : List (List Int)) : List Int := l.foldl (fun m x => if HT.lexLt x m = true then x else m) m
def ltT (f : List Int → List Int → Bool) (xs ys : List D) : R Bool := match ints? xs, ints? ys with | some a, some b => .ok (f a b) | _, _ => .bad
def lexLtD : List D → List D → Option Bool
  | [], [] => some false
  | [], _ :: _ => some true
  | _ :: _, [] => some false
  | .int a :: xs, .int b :: ys => if a = b then lexLtD xs ys else some (decide (a < b))
  | _, _ => none

/-- pairs with texts as keys -/
def prs? : List D → Option (List Str × List D)
  | [] => some ([], [])
  | .tup [.str x, d] :: r => (prs? r).map fun q => (x :: q.1, d :: q.2)
  | _ :: _ => none
/-- a tuple that dict() may be asked for -/
def fzD (xs : List D) : Bool := (prs? xs).isSome
def binD : Bop → D → D → R DB
  | .add, .int i, .int j => .ok (.int (i + j), false)
  | .add, .str x, .str y => okIf (decide (x.length + y.length ≤ szl)) (.str (x ++ y), false)
  | .add, .tup xs, .tup ys => okIf (decide (xs.length + ys.length ≤ szl)) (.tup (xs ++ ys), false)
  | .add, .lst xs, .lst ys => okIf (decide (xs.length + ys.length ≤ szl)) (.lst (xs ++ ys), true)
  | .sub, .int i, .int j => .ok (.int (i - j), false)
  | .mul, .int i, .int j => okIf (decide (i.natAbs < 18446744073709551616) || decide (j.natAbs < 18446744073709551616)) (.int (i * j), false)
  | .mul, .lst xs, .int k => okIf (decide (0 ≤ k) && decide (k < 1000) && decide (xs.length ≤ 1000)) (.lst (List.replicate k.toNat xs).flatten, true)
  | .mul, .tup xs, .int k => okIf (decide (1 ≤ k) && decide (k ≤ 1000) && decide (xs.length ≤ 1000) && !fzD xs) (.tup (List.replicate k.toNat xs).flatten, false)
  | .fdiv, .int i, .int j => okIf (decide (0 < j) && decide (j.natAbs.log2 < 9000)) (.int (i / j), false)
  | .mod, .int i, .int j => okIf (decide (0 < j)) (.int (i % j), false)
  | .pow, .int i, .int j => okIf (decide (0 ≤ j) && decide (j ≤ 1000000) && decide (i.natAbs < 18446744073709551616)) (.int (i ^ j.toNat), false)
  | .shl, .int i, .int j => okIf (decide (0 ≤ j) && decide (j ≤ 1000000) && decide (i.natAbs < 18446744073709551616)) (.int (i * 2 ^ j.toNat), false)
  | _, _, _ => .bad

def inD (x : D) : List D → Bool
  | [] => false
  | y :: ys => eqD y x || inD x ys

/-- one sign in a text -/
def inS (x z : Str) (p : Bool) : R Bool := match x.cps.toList with | [c] => .ok (if p then decide (c ∈ z.cps.toList) else !decide (c ∈ z.cps.toList)) | _ => .bad
def cmpD : Cop → D → D → R Bool
  | .ne, .scr ns, .lst [] => .ok (!ns.isEmpty)
  | .eq, a, b => okIf (dat 60 a && dat 60 b) (eqD a b)
  | .ne, a, b => okIf (dat 60 a && dat 60 b) (!eqD a b)
  | .lt, .int i, .int j => .ok (decide (i < j))
  | .le, .int i, .int j => .ok (decide (i ≤ j))
  | .lt, .tup xs, .tup ys => ltT HT.lexLt xs ys
  | .gt, .tup xs, .tup ys => ltT (fun a b => HT.lexLt b a) xs ys
  | .gt, .int i, .int j => .ok (decide (j < i))
  | .ge, .int i, .int j => .ok (decide (j ≤ i))
  | .lt, .str x, .str y => .ok (decide (x.cps.toList < y.cps.toList))
  | .isin, .str x, .str z => inS x z true
  | .notin, .str x, .str z => inS x z false
  | .isin, x, .lst ys => okIf (dat 60 x && dats 59 ys) (inD x ys)
  | .notin, x, .lst ys => okIf (dat 60 x && dats 59 ys) (!inD x ys)
  | .isin, x, .tup ys => okIf (dat 0 x && dats 0 ys) (inD x ys)
  | .notin, x, .tup ys => okIf (dat 0 x && dats 0 ys) (!inD x ys)
  | _, _, _ => .bad

def isD : D → D → Option Bool
  | .non, .non => some true
  | .non, _ => some false
  | .bl a, .bl b => some (decide (a = b))
  | _, _ => none

def atD (xs : List D) (i : Int) : R DB := match atI xs i with | some v => .ok (v, false) | none => .bad
def getK : List (List Int) → List D → List Int → Option D
  | k :: ks, d :: ds, q => if k = q then some d else getK ks ds q
  | _, _, _ => none
def repV {α : Type} : List (List Int) → List α → List Int → α → List α
  | k :: ks, d :: ds, q, x => (if k = q then x else d) :: repV ks ds q x
  | _, _, _, _ => []
def putKs (ks : List (List Int)) (q : List Int) : List (List Int) := if q ∈ ks then ks else ks ++ [q]
def putVs {α : Type} (ks : List (List Int)) (ds : List α) (q : List Int) (x : α) : List α := if q ∈ ks then repV ks ds q x else ds ++ [x]
def getS : List Str → List D → Str → Option D
  | k :: ks, d :: ds, q => if k = q then some d else getS ks ds q
  | _, _, _ => none
def dofP (xs : List D) : R DB := match prs? xs with | some q => okIf (decide q.1.Nodup) (.dcs q.1 q.2, true) | none => .bad
def dofD (x : D) : R DB := match x with | .lst xs => dofP xs | .tup xs => dofP xs | _ => .bad
def ixD : D → D → R DB
  | .dcs ks ds, .str x => (match getS ks ds x with | some d => .ok (d, false) | none => .bad)
  | .dct ks ds, .tup xs => (match ints? xs with | some q => if q = [] then .bad else (match getK ks ds q with | some d => .ok (d, false) | none => .bad) | none => .bad)
  | .lst xs, .int i => atD xs i
  | .tup xs, .int i => atD xs i
  | .scr ns, .int i => (match atI ns i with | some v => .ok (.int v, false) | none => .bad)
  | .str z, .int i => match atI z.cps.toList i with | some c => okIf (decide (z.length ≤ szl)) (.str ⟨#[c]⟩, false) | none => .bad
  | _, _ => .bad

def cutD {α : Type} (xs : List α) (lo hi : Option Int) : List α := (xs.drop (HT.sIx xs.length 0 lo)).take (HT.sIx xs.length xs.length hi - HT.sIx xs.length 0 lo)
def slD (a : D) (l h : Option Int) : R DB := match a with
    | .lst xs => .ok (.lst (cutD xs l h), true)
    | .tup xs => .ok (.tup (cutD xs l h), false)
    | _ => .bad

def tyD : Ty → D → Option Bool
  | .int, .int _ => some true | .int, .bl _ => some true
  | .bool, .bl _ => some true
  | .str, .str _ => some true
  | .tuple, .tup _ => some true
  | .list, .lst _ => some true
  | _, .fn _ => none | _, .scr _ => none | _, .dct _ _ => none | _, .dcs _ _ => none
  | _, _ => some false

def minL : Int → List Int → Int
  | m, [] => m
  | m, x :: r => minL (if x < m then x else m) r
def maxL : Int → List Int → Int
  | m, [] => m
  | m, x :: r => maxL (if m < x then x else m) r

def insI (x : Int) : List Int → List Int
  | [] => [x]
  | y :: r => if x ≤ y then x :: y :: r else y :: insI x r
def sortI : List Int → List Int
  | [] => []
  | x :: r => insI x (sortI r)

/-- sorted(set(..)) -/
def insU (x : Int) : List Int → List Int
  | [] => [x]
  | y :: r => if x < y then x :: y :: r else if x = y then y :: r else y :: insU x r
def sortU : List Int → List Int
  | [] => []
  | x :: r => insU x (sortU r)
def revD (x : D) : R DB := match x with | .tup xs => .ok (.tup xs.reverse, false) | .lst xs => .bad | _ => .bad
def srsD (x : D) : R DB := match x with | .lst xs => (match ints? xs with | some ns => okIf (decide (ns.length ≤ 60)) (.lst ((sortU ns).map .int), true) | none => .bad) | _ => .bad
/-- sorted(.., key=lambda one: 0 - len(one)) -/
def tln : D → Nat | .tup xs => xs.length | _ => 0
def isTp : D → Bool | .tup _ => true | _ => false
def srlD (x : D) : R DB := match x with | .lst xs => okIf (xs.all isTp) (.lst (xs.mergeSort fun a b => decide (tln b ≤ tln a)), true) | _ => .bad
def prD : Prim → List D → R DB
  | .len, [.lst xs] => .ok (.int xs.length, false)
  | .len, [.scr xs] => .ok (.int xs.length, false)
  | .len, [.tup xs] => .ok (.int xs.length, false)
  | .len, [.str z] => okIf (decide (z.length ≤ szl)) (.int z.length, false)
  | .min, [.lst xs] => (match ints? xs with | some (x :: r) => .ok (.int (minL x r), false) | some [] => .bad | none => (match tups? xs with | some (x :: r) => .ok (.tup ((minT x r).map .int), false) | _ => .bad))
  | .max, [.lst xs] => (match ints? xs with | some (x :: r) => .ok (.int (maxL x r), false) | _ => .bad)
  | .min, [.tup xs] => (match ints? xs with | some (x :: r) => .ok (.int (minL x r), false) | _ => .bad)
  | .max, [.tup xs] => (match ints? xs with | some (x :: r) => .ok (.int (maxL x r), false) | _ => .bad)
  | .min, [.int i, .int j] => .ok (.int (if j < i then j else i), false)
  | .max, [.int i, .int j] => .ok (.int (if j > i then j else i), false)
  | .sum, [.lst xs] => (match ints? xs with | some ns => .ok (.int ns.sum, false) | _ => .bad)
  | .sum, [.tup xs] => (match ints? xs with | some ns => .ok (.int ns.sum, false) | _ => .bad)
  | .all, [.lst xs] => (match bls? xs with | some bs => .ok (.bl (bs.all id), false) | _ => .bad)
  | .any, [.lst xs] => (match bls? xs with | some bs => .ok (.bl (bs.any id), false) | _ => .bad)
  | .tuple, [.lst xs] => .ok (.tup xs, false)
  | .tuple, [.tup xs] => .ok (.tup xs, false)
  | .list, [.lst xs] => .ok (.lst xs, true)
  | .list, [.tup xs] => .ok (.lst xs, true)
  | .sorted, [.lst xs] => (match ints? xs with | some ns => .ok (.lst ((sortI ns).map .int), true) | _ => .bad)
  | .sorted, [.tup xs] => (match ints? xs with | some ns => .ok (.lst ((sortI ns).map .int), true) | _ => .bad)
  | .int, [.bl b] => .ok (.int (if b then 1 else 0), false)
  | .int, [.int i] => .ok (.int i, false)
  | .dict, [x] => dofD x
  | .isi t, [x] => (match tyD t x with | some b => .ok (.bl b, false) | none => .bad)
  | _, _ => .bad

/-- what a for walks -/
def sqD (x : D) : R (List D) := match x with | .lst xs => .ok xs | .tup xs => .ok xs | .str z => okIf (decide (z.length ≤ szl)) (z.cps.toList.map fun c => .str ⟨#[c]⟩) | _ => .bad
def bindTg : Tg → D → Ev → Option Ev
  | .nm i, d, ρ => some (ρ.set i (some d))
  | .tp2 a b, .tup [x, y], ρ => (bindTg a x ρ).bind (bindTg b y)
  | .tp3 a b c, .tup [x, y, z], ρ => ((bindTg a x ρ).bind (bindTg b y)).bind (bindTg c z)
  | _, _, _ => none
def wipeE (ρ : Ev) : List Nat → Ev
  | [] => ρ
  | v :: vs => (wipeE ρ vs).set v none

def rgD (a b : Int) : List D := (List.range (b - a).toNat).map fun i => .int (a + (i : Nat))
def rgOk (a b : Int) : Bool := decide (-4611686018427387904 ≤ a) && decide (a < 4611686018427387904) && decide (-4611686018427387904 ≤ b) && decide (b < 4611686018427387904) && decide (b - a ≤ 16777216)
def zipD : List D → List D → List D
  | x :: xs, y :: ys => .tup [x, y] :: zipD xs ys
  | _, _ => []
def enumD : Nat → List D → List D
  | _, [] => []
  | n, x :: xs => .tup [.int (n : Int), x] :: enumD (n + 1) xs

/-! ### the interpreter -/
def intR (x : R DB) : R Int := x.bind fun d => match d.1 with | .int b => .ok b | _ => .bad
def boolR (x : R DB) : R Bool := x.bind fun d => match d.1 with | .bl b => .ok b | _ => .bad
/-- [elt for .. in items]: f one turn -/
def compL (f : D → R (Option D)) : List D → R (List D)
  | [] => .ok []
  | x :: xs => (f x).bind fun y => (compL f xs).bind fun ys => .ok (match y with | some y => y :: ys | none => ys)
/-- two clauses: f one turn of the first -/
def catL (f : D → R (List D)) : List D → R (List D)
  | [] => .ok []
  | x :: xs => (f x).bind fun y => (catL f xs).bind fun ys => .ok (y ++ ys)
/-- a raise within a comprehension is not told -/
def noErr {α : Type} (x : R α) : R α := match x with | .err _ => .bad | y => y

section
variable (C : Orc)
mutual
def ev : E → Ev → R DB
  | .var i, ρ => match ρ[i]? with | some (some d) => .ok (d, false) | _ => .bad
  | .cst d, _ => .ok (d, false)
  | .tup es, ρ => (evs es ρ).bind fun ds => .ok (.tup ds, false)
  | .lst es, ρ => (evs es ρ).bind fun ds => .ok (.lst ds, true)
  | .bin o a b, ρ => (ev a ρ).bind fun x => (ev b ρ).bind fun y => binD o x.1 y.1
  | .neg a, ρ => (ev a ρ).bind fun x => match x.1 with | .int i => .ok (.int (-i), false) | _ => .bad
  | .cmp o a b, ρ => (ev a ρ).bind fun x => (ev b ρ).bind fun y => (cmpD o x.1 y.1).bind fun c => .ok (.bl c, false)
  | .chain o p a b c, ρ => (ev a ρ).bind fun x => (ev b ρ).bind fun y => (cmpD o x.1 y.1).bind fun k =>
      if k = true then (ev c ρ).bind fun z => (cmpD p y.1 z.1).bind fun l => .ok (.bl l, false) else .ok (.bl false, false)
  | .isc d p a, ρ => (ev a ρ).bind fun x => match isD d x.1 with | some b => .ok (.bl (if p then b else !b), false) | none => .bad
  | .and a b, ρ => (boolR (ev a ρ)).bind fun c => if c = true then (boolR (ev b ρ)).bind fun d => .ok (.bl d, false) else .ok (.bl false, false)
  | .or a b, ρ => (boolR (ev a ρ)).bind fun c => if c = true then .ok (.bl true, false) else (boolR (ev b ρ)).bind fun d => .ok (.bl d, false)
  | .not a, ρ => (boolR (ev a ρ)).bind fun c => .ok (.bl (!c), false)
  | .ifx c a b, ρ => (boolR (ev c ρ)).bind fun k => if k = true then ev a ρ else ev b ρ
  | .ix a b, ρ => (ev a ρ).bind fun x => (ev b ρ).bind fun y => ixD x.1 y.1
  | .slA a lo, ρ => (ev a ρ).bind fun x => (intR (ev lo ρ)).bind fun i => slD x.1 (some i) none
  | .slB a hi, ρ => (ev a ρ).bind fun x => (intR (ev hi ρ)).bind fun j => slD x.1 none (some j)
  | .slC a lo hi, ρ => (ev a ρ).bind fun x => (intR (ev lo ρ)).bind fun i => (intR (ev hi ρ)).bind fun j => slD x.1 (some i) (some j)
  | .call f es, ρ => (evs es ρ).bind fun ds => C f ds
  | .callv f es, ρ => (ev f ρ).bind fun g => match g.1 with | .fn i => (evs es ρ).bind fun ds => C i ds | _ => .bad
  | .prim p es, ρ => (evs es ρ).bind fun ds => prD p ds
  | .dnew, _ => .ok (.dct [] [], true)
  | .srs e, ρ => (ev e ρ).bind fun x => srsD x.1
  | .srl e, ρ => (ev e ρ).bind fun x => srlD x.1
  | .rev e, ρ => (ev e ρ).bind fun x => revD x.1
  | .rng t s, ρ => (evSr s ρ).bind fun xs => .ok (if t = true then (.tup xs, false) else (.lst xs, true))
  | .comp elt tg src own, ρ => (evSr src ρ).bind fun xs => noErr ((compL (fun x => match bindTg tg x (wipeE ρ own) with
      | some ρ' => (ev elt ρ').bind fun y => .ok (some y.1)
      | none => .bad) xs).bind fun ys => .ok (.lst ys, true))
  | .compf elt tg src test own, ρ => (evSr src ρ).bind fun xs => noErr ((compL (fun x => match bindTg tg x (wipeE ρ own) with
      | some ρ' => (boolR (ev test ρ')).bind fun c => if c = true then (ev elt ρ').bind fun y => .ok (some y.1) else .ok none
      | none => .bad) xs).bind fun ys => .ok (.lst ys, true))
  | .comp2 elt tg src tg1 src1 own own1, ρ => (evSr src ρ).bind fun xs => noErr ((catL (fun x => match bindTg tg x (wipeE ρ own) with
      | some ρ' => (evSr src1 ρ').bind fun ys => compL (fun y => match bindTg tg1 y (wipeE ρ' own1) with
        | some ρ2 => (ev elt ρ2).bind fun z => .ok (some z.1)
        | none => .bad) ys
      | none => .bad) xs).bind fun zs => okIf (decide (zs.length ≤ szl)) (.lst zs, true))
def evs : Es → Ev → R (List D)
  | .nil, _ => .ok []
  | .cons e es, ρ => (ev e ρ).bind fun x => (evs es ρ).bind fun xs => .ok (x.1 :: xs)
def evSr : Sr → Ev → R (List D)
  | .seq e, ρ => (ev e ρ).bind fun x => sqD x.1
  | .rg1 e, ρ => (intR (ev e ρ)).bind fun n => okIf (rgOk 0 n) (rgD 0 n)
  | .rg2 a b, ρ => (intR (ev a ρ)).bind fun m => (intR (ev b ρ)).bind fun n => okIf (rgOk m n) (rgD m n)
  | .zip a b, ρ => (ev a ρ).bind fun x => (ev b ρ).bind fun y => match x.1, y.1 with
    | .lst xs, .lst ys => .ok (zipD xs ys) | .tup xs, .tup ys => .ok (zipD xs ys) | _, _ => .bad
  | .enum a, ρ => (ev a ρ).bind fun x => match x.1 with | .lst xs => .ok (enumD 0 xs) | .tup xs => .ok (enumD 0 xs) | _ => .bad
end
end

/-! ### statements -/
abbrev Sl := List (Option (Bool × D))
mutual
inductive S where
  | set (i : Nat) (ow : Bool) (e : E) (ms : List Nat)
  | unp (tg : Tg) (e : E) (ms : List Nat)
  | par2 (len i j : Nat) (oi oj : Bool) (a b : E) (ms : List Nat)
  | par3 (len i j k : Nat) (oi oj ok : Bool) (a b c : E) (ms : List Nat)
  | drop (e : E)
  | app (i : Nat) (e : E) (ms : List Nat)
  | ext (i : Nat) (e : E) (ms : List Nat)
  | rem (i : Nat) (e : E)
  | put (i : Nat) (k e : E) (ms : List Nat)
  | ret (e : E)
  | retV (i : Nat)
  | retN
  | pass
  | ife (c : E) (a b : Ss)
  | forr (tg : Tg) (src : Sr) (ms : List Nat) (body : Ss)
  | whl (c : E) (body : Ss)
  | raise (c : Nat)
  | tryI (body : Ss) (i : Nat) (cs : List Nat)
inductive Ss where
  | nil | cons (s : S) (r : Ss)
end
inductive Out where
  | nx (δ : Sl) | ret (d : DB) | err (c : Nat) (δ : Sl) | bad

mutual
def imm : D → Bool
  | .lst _ => false
  | .dct _ _ => false
  | .dcs _ _ => false
  | .scr _ => false
  | .tup xs => imms xs
  | _ => true
def imms : List D → Bool
  | [] => true
  | d :: ds => imm d && imms ds
end
def viewF (ms : List Nat) : Nat → Sl → Ev
  | _, [] => []
  | n, none :: r => none :: viewF ms (n + 1) r
  | n, some (ow, d) :: r => (if ow && !ms.contains n then none else some d) :: viewF ms (n + 1) r
def view (ms : List Nat) (δ : Sl) : Ev := viewF ms 0 δ
def frzF (ms : List Nat) : Nat → Sl → Sl
  | _, [] => []
  | n, none :: r => none :: frzF ms (n + 1) r
  | n, some (ow, d) :: r => some (ow && !ms.contains n, d) :: frzF ms (n + 1) r
def frz (ms : List Nat) (δ : Sl) : Sl := frzF ms 0 δ
/-- nothing that stood before is within reach of the value -/
def safe (d : DB) : Bool := imm d.1 || (d.2 && match d.1 with | .lst xs => imms xs | .dct _ xs => imms xs | .dcs _ xs => imms xs | _ => false)
def after (ms : List Nat) (d : DB) (δ : Sl) : Sl := if ms.isEmpty || safe d then δ else frz ms δ
def viewA (δ : Sl) : Ev := δ.map (Option.map (·.2))
def isRg : Sr → Bool
  | .rg1 _ => true
  | .rg2 _ _ => true
  | _ => false
def bindS : Tg → D → Sl → Option Sl
  | .nm i, d, δ => some (δ.set i (some (false, d)))
  | .tp2 a b, .tup [x, y], δ => (bindS a x δ).bind (bindS b y)
  | .tp3 a b c, .tup [x, y, z], δ => ((bindS a x δ).bind (bindS b y)).bind (bindS c z)
  | _, _, _ => none
def onR {α : Type} (x : R α) (δ : Sl) (k : α → Out) : Out := match x with | .ok a => k a | .err c => .err c δ | .bad => .bad
@[simp] theorem onR_ok {α : Type} (a : α) (δ : Sl) (k : α → Out) : onR (.ok a) δ k = k a := rfl
@[simp] theorem onR_err {α : Type} (c : Nat) (δ : Sl) (k : α → Out) : onR (.err c : R α) δ k = .err c δ := rfl
@[simp] theorem onR_bad {α : Type} (δ : Sl) (k : α → Out) : onR (.bad : R α) δ k = .bad := rfl
def Out.then (o : Out) (k : Sl → Out) : Out := match o with | .nx δ => k δ | o => o
@[simp] theorem Out.then_nx (δ : Sl) (k : Sl → Out) : (Out.nx δ).then k = k δ := rfl
@[simp] theorem Out.then_ret (d : DB) (k : Sl → Out) : (Out.ret d).then k = .ret d := rfl
@[simp] theorem Out.then_err (c : Nat) (δ : Sl) (k : Sl → Out) : (Out.err c δ).then k = .err c δ := rfl
@[simp] theorem Out.then_bad (k : Sl → Out) : (Out.bad).then k = .bad := rfl
def isOwn (i : Nat) (δ : Sl) : Bool := match δ[i]? with | some (some (true, .lst _)) => true | _ => false
def appL (i : Nat) (d : DB) (δ : Sl) : Out := match δ[i]? with
  | some (some (true, .lst xs)) => if xs.length < szl then .nx (δ.set i (some (true, .lst (xs ++ [d.1])))) else .bad
  | _ => .bad
def isOwnK (i : Nat) (δ : Sl) : Bool := match δ[i]? with | some (some (true, .dct _ _)) => true | _ => false
def putK (i : Nat) (q d : DB) (δ : Sl) : Out := match δ[i]?, q.1 with
  | some (some (true, .dct ks ds)), .tup xs => (match ints? xs with
    | some q => if ks.length < szl ∧ q ≠ [] then .nx (δ.set i (some (true, .dct (putKs ks q) (putVs ks ds q d.1)))) else .bad
    | none => .bad)
  | _, _ => .bad
def extL (i : Nat) (d : DB) (δ : Sl) : Out := match δ[i]?, d.1 with
  | some (some (true, .lst xs)), .lst ys => if xs.length + ys.length ≤ szl then .nx (δ.set i (some (true, .lst (xs ++ ys)))) else .bad
  | _, _ => .bad
def remL (i : Nat) (d : DB) (δ : Sl) : Out := match δ[i]?, d.1 with
  | some (some (true, .lst xs)), .int n => (match ints? xs with
    | some ns => if n ∈ ns then .nx (δ.set i (some (true, .lst ((ns.erase n).map .int)))) else .bad
    | none => .bad)
  | _, _ => .bad
def forL (f : D → Sl → Out) : List D → Sl → Out
  | [], δ => .nx δ
  | x :: xs, δ => (f x δ).then (forL f xs)
def whileL (c : Sl → R Bool) (b : Sl → Out) : Nat → Sl → Out
  | 0, _ => .bad
  | n + 1, δ => onR (c δ) δ fun k => if k = true then (b δ).then (whileL c b n) else .nx δ
def tryO (i : Nat) (cs : List Nat) (o : Out) : Out := match o with
  | .err c δ => (match cs.idxOf? c with | some j => if i < δ.length then .ret (.int (j : Nat), false) else .bad | none => .bad)
  | o => o
def rem1 (x : D) : List D → Option (List D)
  | [] => none
  | y :: r => if eqD y x then some r else (rem1 x r).map (y :: ·)
def whFuel : Nat := 100000

section
variable (C : Orc)
mutual
def ex : S → Sl → Out
  | .set i ow e ms, δ => onR (ev C e (view ms δ)) δ fun d => .nx ((after ms d δ).set i (some (ow && d.2, d.1)))
  | .unp tg e ms, δ => onR (ev C e (view ms δ)) δ fun d => match bindS tg d.1 (after ms d δ) with | some δ' => .nx δ' | none => .bad
  | .par2 len i j oi oj a b ms, δ => if δ.length = len then onR (ev C a (view ms δ)) δ fun d => onR (ev C b (view ms (after ms d δ))) (after ms d δ) fun e =>
      .nx (((after ms e (after ms d δ)).set i (some (oi && d.2, d.1))).set j (some (oj && e.2, e.1))) else .bad
  | .par3 len i j k oi oj ok a b c ms, δ => if δ.length = len then onR (ev C a (view ms δ)) δ fun d => onR (ev C b (view ms (after ms d δ))) (after ms d δ) fun e =>
      onR (ev C c (view ms (after ms e (after ms d δ)))) (after ms e (after ms d δ)) fun f =>
      .nx ((((after ms f (after ms e (after ms d δ))).set i (some (oi && d.2, d.1))).set j (some (oj && e.2, e.1))).set k (some (ok && f.2, f.1))) else .bad
  | .drop e, δ => onR (ev C e (view [] δ)) δ fun _ => .nx δ
  | .app i e ms, δ => if isOwn i δ = true then onR (ev C e (view ms δ)) δ fun d => appL i d (after ms d δ) else .bad
  | .ext i e ms, δ => if isOwn i δ = true then onR (ev C e (view ms δ)) δ fun d => extL i d (after ms d δ) else .bad
  | .rem i e, δ => if isOwn i δ = true then onR (ev C e (view [] δ)) δ fun d => remL i d δ else .bad
  | .put i k e ms, δ => if isOwnK i δ = true then onR (ev C e (view ms δ)) δ fun d => onR (ev C k (view [] (after ms d δ))) (after ms d δ) fun q => putK i q d (after ms d δ) else .bad
  | .ret e, δ => onR (ev C e (viewA δ)) δ fun d => .ret d
  | .retV i, δ => match δ[i]? with | some (some (ow, d)) => .ret (d, ow) | _ => .bad
  | .retN, _ => .ret (.non, false)
  | .pass, δ => .nx δ
  | .ife c a b, δ => onR (boolR (ev C c (viewA δ))) δ fun k => if k = true then exs a δ else exs b δ
  | .forr tg src ms body, δ => onR (evSr C src (view ms δ)) δ fun xs => forL (fun x δ => match bindS tg x δ with | some δ' => exs body δ' | none => .bad) xs (if ms.isEmpty then δ else frz ms δ)
  | .whl c body, δ => whileL (fun δ => boolR (ev C c (viewA δ))) (fun δ => exs body δ) whFuel δ
  | .raise c, δ => .err c δ
  | .tryI body i cs, δ => tryO i cs (exs body δ)
def exs : Ss → Sl → Out
  | .nil, δ => .nx δ
  | .cons s r, δ => (ex s δ).then fun δ' => exs r δ'
end
end

structure Fn where
  ar : Nat
  ns : Nat
  body : Ss
def runF (C : Orc) (f : Fn) (ds : List D) : R DB :=
  if ds.length = f.ar then
    match exs C f.body (ds.map (fun d => some (false, d)) ++ List.replicate (f.ns - ds.length) none) with
    | .nx _ => .ok (.non, false)
    | .ret d => .ok d
    | .err c _ => .err c
    | .bad => .bad
  else .bad
def call (fs : List Fn) : Nat → Orc
  | 0, _, _ => .bad
  | n + 1, f, ds => match fs[f]? with
    | some fn => runF (call fs n) fn ds
    | none => .bad
end SS

set_option maxRecDepth 100000
set_option maxHeartbeats 4000000
/-! SSB: how data lies in the heap -/
namespace SS
open PySem PySem.Spec PyProof.Rows L2

structure Gb where
  tabs : List (Addr × Str)
  P : Program
  w : World
  K : PySem.W.Frag
  mg : Str → Option Value
  base : Heap
  fa : Nat → Addr
  ca : Nat → Addr
  fd : Nat → FuncData
  ps : Nat → List Str

/-- no table of code objects -/
def nt : HO → Prop | .tbl _ => False | _ => True
/-- all but the tables stay; the tables grow -/
structure Same (G : Gb) (H H' : Hp) : Prop where
  ob : ∀ b o, H b = some o → nt o → H' b = some o
  tb : ∀ p ∈ G.tabs, LamX.TabS H p.1 p.2 → LamX.TabS H' p.1 p.2
  th : ∀ b, H b ≠ none → H' b ≠ none
theorem Same.g {G : Gb} {H H' : Hp} (s : Same G H H') {b : Addr} {o : HO} (e : H b = some o) (h : nt o := by exact trivial) : H' b = some o := s.ob b o e h
theorem Same.of {G : Gb} {H H' : Hp} (h : ∀ b o, H b = some o → H' b = some o) : Same G H H' := ⟨fun b o e _ => h b o e, fun _ _ t => t.ext h, fun b n => by
  cases e : H b with
  | none => exact absurd e n
  | some o => rw [h b o e]; simp⟩
theorem Same.refl {G : Gb} (H : Hp) : Same G H H := .of fun _ _ h => h
theorem Same.trans {G : Gb} {H H1 H2 : Hp} (a : Same G H H1) (b : Same G H1 H2) : Same G H H2 := ⟨fun c o h n => b.ob c o (a.ob c o h n) n, fun P q t => b.tb P q (a.tb P q t), fun c n => b.th c (a.th c n)⟩
theorem Same.free {G : Gb} {H H' : Hp} (e : Same G H H') {l : Addr} (h : H' l = Option.none) : H l = Option.none := by
  cases q : H l with
  | none => rfl
  | some o => exact absurd h (e.th l (by rw [q]; simp))
def isBx : HO → Prop
  | .lst _ => True
  | .dT _ => True
  | .dK _ => True
  | _ => False
/-- what is no table and no code object may change -/
theorem tabs_keep {H H' : Hp} (h : ∀ b o, H b = some o → ¬ isBx o → H' b = some o) {P : Addr} {q : Str} (t : LamX.TabS H P q) : LamX.TabS H' P q := by
  obtain ⟨ps, h1, h2, h3⟩ := t
  refine ⟨ps, h _ _ h1 (fun z => z), h2, fun pos cv hc => ?_⟩
  obtain ⟨c, e1, e2⟩ := h3 pos cv hc
  exact ⟨c, e1, h _ _ e2 (fun z => by unfold LamX.CodeO at z; exact z)⟩
/-- a list that never changes -/
def SqF (K : PySem.W.Frag) (H : Hp) (a : Addr) (xs : List V) : Prop :=
  (∃ o, H a = some (.frz o (.lst xs))) ∨
    ∃ (o : Obj) (its : Array Value) (n : Nat), K.lookup a = some o ∧ o.cls = .type "list" ∧ o.dict = none ∧ o.data = .seq its n ∧ its.size ≤ sizeLine ∧ Vals xs its.toList
theorem SqF.sq {K : PySem.W.Frag} {H : Hp} {a : Addr} {xs : List V} (h : SqF K H a xs) : SqL K H a xs := by
  rcases h with h | h
  · exact .inl (.inr h)
  · exact .inr h
theorem sq_cases {K : PySem.W.Frag} {H : Hp} {a : Addr} {xs : List V} (h : SqL K H a xs) : H a = some (.lst xs) ∨ SqF K H a xs := by
  rcases h with (h | h) | h
  · exact .inl h
  · exact .inr (.inl h)
  · exact .inr (.inr h)

/-- a dict's pairs -/
def kvz (ks : List (List Int)) (xs : List V) : List (List Key × V) := (ks.zip xs).map fun p => (p.1.map Sum.inl, p.2)
def kvs (ks : List Str) (xs : List V) : List (Key × V) := (ks.zip xs).map fun p => (Sum.inr p.1, p.2)
/-- a tuple; one that dict() may be asked for has no dict of its own -/
def tO (b : Bool) (o : Obj) (xs : List V) : HO := match b with | true => .frz o (.tup xs) | false => .tup xs
theorem tO_sq {K : PySem.W.Frag} {H : Hp} {a : Addr} {b : Bool} {o : Obj} {xs : List V} (h : H a = some (tO b o xs)) : SqT K H a xs := by
  cases b with
  | true => exact .inl (.inr ⟨o, h⟩)
  | false => exact .inl (.inl h)
theorem tO_nt {b : Bool} {o : Obj} {xs : List V} : nt (tO b o xs) := by cases b <;> trivial
theorem tO_ok {P : Program} {w : World} {H : Hp} {h : Heap} {a : Addr} {b : Bool} {o : Obj} {xs : List V} (k : ObjOk P w H h a (.tup xs)) (e : h.get? a = some o) : ObjOk P w H h a (tO b o xs) := by
  cases b with
  | true => exact ⟨e, k⟩
  | false => exact k
mutual
inductive Den (G : Gb) (H : Hp) (O : Addr → Prop) : D → V → Prop
  | non : Den G H O .non .non
  | bl (b : Bool) : Den G H O (.bl b) (.bl b)
  | int (i : Int) : Den G H O (.int i) (.int i)
  | str (x : Str) : Den G H O (.str x) (.str x)
  | tup {a : Addr} {xs : List V} {ds : List D} {o : Obj} : o.dict = none → H a = some (tO (fzD ds) o xs) → DenL G H O ds xs → Den G H O (.tup ds) (.ref a)
  | lst {a : Addr} {xs : List V} {ds : List D} : H a = some (.lst xs) → ¬ O a → DenL G H O ds xs → Den G H O (.lst ds) (.ref a)
  | dct {a : Addr} {ks : List (List Int)} {xs : List V} {ds : List D} : H a = some (.dT (kvz ks xs)) → ks.length = ds.length → ¬ O a → DenL G H O ds xs → Den G H O (.dct ks ds) (.ref a)
  | dcs {a : Addr} {ks : List Str} {xs : List V} {ds : List D} : H a = some (.dK (kvs ks xs)) → ks.length = ds.length → ¬ O a → DenL G H O ds xs → Den G H O (.dcs ks ds) (.ref a)
  | fn (i : Nat) : Den G H O (.fn i) (.ref (G.fa i))
  | scr {a : Addr} {ns : List Int} : (SqF G.K H a (ns.map V.int) ∨ (H a = some (.lst (ns.map V.int)) ∧ ¬ O a)) → Den G H O (.scr ns) (.ref a)
inductive DenL (G : Gb) (H : Hp) (O : Addr → Prop) : List D → List V → Prop
  | nil : DenL G H O [] []
  | cons {d : D} {ds : List D} {v : V} {vs : List V} : Den G H O d v → DenL G H O ds vs → DenL G H O (d :: ds) (v :: vs)
end

section
variable {G : Gb} {H H' H'' : Hp} {O O' : Addr → Prop}

theorem DenL.length : ∀ {ds : List D} {vs : List V}, DenL G H O ds vs → ds.length = vs.length
  | [], _, h => by cases h; rfl
  | d :: ds, _, h => by cases h with | cons _ t => rw [List.length_cons, List.length_cons, t.length]
theorem DenL.get : ∀ {ds : List D} {vs : List V} {i : Nat} {d : D}, DenL G H O ds vs → ds[i]? = some d → ∃ v, vs[i]? = some v ∧ Den G H O d v
  | [], _, _, _, _, e => by simp at e
  | d :: ds, _, 0, _, h, e => by
    cases h with | cons r _ => simp at e; subst e; exact ⟨_, rfl, r⟩
  | d :: ds, _, i + 1, x, h, e => by
    cases h with
    | cons _ t =>
      obtain ⟨v, h1, h2⟩ := DenL.get (i := i) (d := x) t (by simpa using e)
      exact ⟨v, by simpa using h1, h2⟩
theorem DenL.get' {ds : List D} {vs : List V} {i : Nat} {v : V} (h : DenL G H O ds vs) (e : vs[i]? = some v) : ∃ d, ds[i]? = some d ∧ Den G H O d v := by
  have hl := h.length
  have hi : i < vs.length := (List.getElem?_eq_some_iff.mp e).1
  obtain ⟨v', h1, h2⟩ := h.get (List.getElem?_eq_getElem (show i < ds.length by omega))
  rw [e] at h1
  cases h1
  exact ⟨_, List.getElem?_eq_getElem _, h2⟩
theorem DenL.append : ∀ {ds es : List D} {vs ws : List V}, DenL G H O ds vs → DenL G H O es ws → DenL G H O (ds ++ es) (vs ++ ws)
  | [], _, _, _, h, k => by cases h; exact k
  | d :: ds, _, _, _, h, k => by cases h with | cons r t => exact .cons r (t.append k)
theorem DenL.take : ∀ {ds : List D} {vs : List V} (n : Nat), DenL G H O ds vs → DenL G H O (ds.take n) (vs.take n)
  | _, _, 0, _ => .nil
  | [], _, _ + 1, h => by cases h; exact .nil
  | d :: ds, _, n + 1, h => by cases h with | cons r t => exact .cons r (t.take n)
theorem DenL.drop : ∀ {ds : List D} {vs : List V} (n : Nat), DenL G H O ds vs → DenL G H O (ds.drop n) (vs.drop n)
  | _, _, 0, h => h
  | [], _, _ + 1, h => by cases h; exact .nil
  | d :: ds, _, n + 1, h => by cases h with | cons r t => exact t.drop n
theorem DenL.rep {ds : List D} {vs : List V} (h : DenL G H O ds vs) : ∀ n, DenL G H O (List.replicate n ds).flatten (List.replicate n vs).flatten
  | 0 => .nil
  | n + 1 => by
    rw [List.replicate_succ, List.flatten_cons, List.replicate_succ, List.flatten_cons]
    exact h.append (h.rep n)

theorem DenL.reverse : ∀ {ds : List D} {vs : List V}, DenL G H O ds vs → DenL G H O ds.reverse vs.reverse
  | [], _, h => by cases h; exact .nil
  | d :: ds, _, h => by
    cases h with
    | cons r t =>
      rw [List.reverse_cons, List.reverse_cons]
      exact t.reverse.append (.cons r .nil)
/-- what may be owned: a list, a dict -/
inductive Box : D → HO → List D → List V → Prop
  | lst (ds : List D) (xs : List V) : Box (.lst ds) (.lst xs) ds xs
  | dct (ks : List (List Int)) (ds : List D) (xs : List V) : ks.length = ds.length → Box (.dct ks ds) (.dT (kvz ks xs)) ds xs
  | dcs (ks : List Str) (ds : List D) (xs : List V) : ks.length = ds.length → Box (.dcs ks ds) (.dK (kvs ks xs)) ds xs
theorem isBx_nt {o : HO} (h : isBx o) : nt o := by cases o <;> first | trivial | exact False.elim h
theorem Box.is {d : D} {o : HO} {ds : List D} {xs : List V} (b : Box d o ds xs) : isBx o := by cases b <;> trivial
theorem Den.ofBox {d : D} {o : HO} {ds : List D} {xs : List V} {a : Addr} (b : Box d o ds xs) (e : H a = some o) (n : ¬ O a) (r : DenL G H O ds xs) : Den G H O d (.ref a) := by
  cases b with
  | lst => exact .lst e n r
  | dct ks _ _ h => exact .dct e h n r
  | dcs ks _ _ h => exact .dcs e h n r
/-- what a description leans on -/
structure Tr (H : Hp) (O : Addr → Prop) (H' : Hp) (O' : Addr → Prop) : Prop where
  tup : ∀ a xs, H a = some (.tup xs) → H' a = some (.tup xs)
  frz : ∀ a o u, H a = some (.frz o u) → H' a = some (.frz o u)
  box : ∀ a o, isBx o → H a = some o → ¬ O a → H' a = some o ∧ ¬ O' a
theorem Tr.lst (T : Tr H O H' O') (a : Addr) (xs : List V) (e : H a = some (.lst xs)) (n : ¬ O a) : H' a = some (.lst xs) ∧ ¬ O' a := T.box a _ trivial e n
theorem sqT_tr {K : PySem.W.Frag} {a : Addr} {xs : List V} (t1 : ∀ a xs, H a = some (.tup xs) → H' a = some (.tup xs)) (t2 : ∀ a o u, H a = some (.frz o u) → H' a = some (.frz o u)) (h : SqT K H a xs) : SqT K H' a xs := by
  rcases h with (h | ⟨o, h⟩) | h
  · exact .inl (.inl (t1 _ _ h))
  · exact .inl (.inr ⟨o, t2 _ _ _ h⟩)
  · exact .inr h
theorem tO_tr {a : Addr} {b : Bool} {o : Obj} {xs : List V} (t1 : ∀ a xs, H a = some (.tup xs) → H' a = some (.tup xs)) (t2 : ∀ a o u, H a = some (.frz o u) → H' a = some (.frz o u)) (h : H a = some (tO b o xs)) : H' a = some (tO b o xs) := by
  cases b with
  | true => exact t2 _ _ _ h
  | false => exact t1 _ _ h
theorem sqF_tr {K : PySem.W.Frag} {a : Addr} {xs : List V} (t2 : ∀ a o u, H a = some (.frz o u) → H' a = some (.frz o u)) (h : SqF K H a xs) : SqF K H' a xs := by
  rcases h with ⟨o, h⟩ | h
  · exact .inl ⟨o, t2 _ _ _ h⟩
  · exact .inr h
mutual
theorem Den.tr (T : Tr H O H' O') : ∀ {d : D} {v : V}, Den G H O d v → Den G H' O' d v
  | .non, _, h => by cases h; exact .non
  | .bl _, _, h => by cases h; exact .bl _
  | .int _, _, h => by cases h; exact .int _
  | .str _, _, h => by cases h; exact .str _
  | .tup ds, _, h => by
    cases h with | @tup _ _ _ o hd q r => exact .tup hd (tO_tr T.tup T.frz q) (DenL.tr T r)
  | .lst ds, _, h => by
    cases h with
    | lst q n r => exact .lst (T.lst _ _ q n).1 (T.lst _ _ q n).2 (DenL.tr T r)
  | .dct ks ds, _, h => by
    cases h with
    | dct q l n r => exact .dct (T.box _ (.dT _) trivial q n).1 l (T.box _ (.dT _) trivial q n).2 (DenL.tr T r)
  | .dcs ks ds, _, h => by
    cases h with
    | dcs q l n r => exact .dcs (T.box _ (.dK _) trivial q n).1 l (T.box _ (.dK _) trivial q n).2 (DenL.tr T r)
  | .fn _, _, h => by cases h; exact .fn _
  | .scr _, _, h => by cases h with | scr q => exact .scr (q.imp (sqF_tr T.frz) fun z => T.lst _ _ z.1 z.2)
theorem DenL.tr (T : Tr H O H' O') : ∀ {ds : List D} {vs : List V}, DenL G H O ds vs → DenL G H' O' ds vs
  | [], _, h => by cases h; exact .nil
  | d :: ds, _, h => by cases h with | cons r t => exact .cons (Den.tr T r) (DenL.tr T t)
end
mutual
theorem Den.imm (t1 : ∀ a xs, H a = some (.tup xs) → H' a = some (.tup xs)) (t2 : ∀ a o u, H a = some (.frz o u) → H' a = some (.frz o u)) : ∀ {d : D} {v : V}, imm d = true → Den G H O d v → Den G H' O' d v
  | .non, _, _, h => by cases h; exact .non
  | .bl _, _, _, h => by cases h; exact .bl _
  | .int _, _, _, h => by cases h; exact .int _
  | .str _, _, _, h => by cases h; exact .str _
  | .tup ds, _, i, h => by
    have i' : imms ds = true := by simpa [SS.imm] using i
    cases h with | @tup _ _ _ o hd q r => exact .tup hd (tO_tr t1 t2 q) (DenL.imm t1 t2 i' r)
  | .lst ds, _, i, h => by simp [SS.imm] at i
  | .dct ks ds, _, i, h => by simp [SS.imm] at i
  | .dcs ks ds, _, i, h => by simp [SS.imm] at i
  | .fn _, _, _, h => by cases h; exact .fn _
  | .scr _, _, i, h => by simp [SS.imm] at i
theorem DenL.imm (t1 : ∀ a xs, H a = some (.tup xs) → H' a = some (.tup xs)) (t2 : ∀ a o u, H a = some (.frz o u) → H' a = some (.frz o u)) : ∀ {ds : List D} {vs : List V}, imms ds = true → DenL G H O ds vs → DenL G H' O' ds vs
  | [], _, _, h => by cases h; exact .nil
  | d :: ds, _, i, h => by
    have i' : SS.imm d = true ∧ imms ds = true := by simpa [SS.imms] using i
    cases h with | cons r t => exact .cons (Den.imm t1 t2 i'.1 r) (DenL.imm t1 t2 i'.2 t)
end
theorem Tr.same (s : Same G H H') (h : ∀ a, O' a → O a ∨ H a = none) : Tr H O H' O' :=
  ⟨fun a xs e => s.g e, fun a o u e => s.g e, fun a xs bx e n => ⟨s.ob _ _ e (isBx_nt bx), fun z => (h a z).elim n fun q => by rw [e] at q; cases q⟩⟩
theorem Den.same (s : Same G H H') {d : D} {v : V} (h : Den G H O d v) : Den G H' O d v := h.tr (Tr.same s fun _ z => .inl z)
theorem DenL.same (s : Same G H H') {d : List D} {v : List V} (h : DenL G H O d v) : DenL G H' O d v := h.tr (Tr.same s fun _ z => .inl z)
theorem Same.upd_new {D : Addr} {xs ys : List V} (s : Same G H H') (n : H D = none) (c : H' D = some (.lst xs)) : Same G H (upd H' D (.lst ys)) :=
  ⟨fun b o e h => (upd_ne (ne_of_none e n)).trans (s.ob b o e h), fun P q t => tabs_keep (fun b o e h1 => (upd_ne fun z => h1 (by rw [show o = .lst xs from Option.some.inj ((e.symm.trans (by rw [z])).trans c)]; trivial)).trans e) (s.tb P q t), fun b z => by
    by_cases e : b = D
    · rw [e, upd_same]; simp
    · rw [upd_ne e]; exact s.th b z⟩
theorem Same.updB {D : Addr} {o o' : HO} (s : Same G H H') (n : H D = none) (c : H' D = some o) (bx : isBx o) : Same G H (upd H' D o') :=
  ⟨fun b o e h => (upd_ne (ne_of_none e n)).trans (s.ob b o e h), fun P q t => tabs_keep (fun b o e h1 => (upd_ne fun z => by
    have e' : o = _ := Option.some.inj ((e.symm.trans (by rw [z])).trans c)
    subst e'
    exact h1 bx).trans e) (s.tb P q t), fun b z => by
    by_cases e : b = D
    · rw [e, upd_same]; simp
    · rw [upd_ne e]; exact s.th b z⟩
theorem same_new {p : Addr} {o : HO} (h : H p = none) : Same G H (upd H p o) := .of fun b x e => by
  rw [upd_ne (ne_of_none e h)]
  exact e

/-- the avoided addresses are of objects -/
structure Bnd (G : Gb) (O : Addr → Prop) (H : Hp) : Prop where
  no : ∀ a, O a → H a ≠ none
  tabs : LamX.Tabs G.tabs H
instance {O : Addr → Prop} : CoeFun (Bnd G O H) (fun _ => ∀ a, O a → H a ≠ none) := ⟨fun b => b.no⟩
theorem Bnd.same (s : Same G H H') (h : Bnd G O H) : Bnd G O H' := ⟨fun a z => s.th a (h.no a z), fun p hp => s.tb p hp (h.tabs p hp)⟩
theorem scr_sq {K : PySem.W.Frag} {a : Addr} {xs : List V} (h : SqF K H a xs ∨ (H a = some (.lst xs) ∧ ¬ O a)) : SqL K H a xs := h.elim SqF.sq fun z => .inl (.inl z.1)
/-- a new list -/
def Fresh (G : Gb) (H H' : Hp) (O : Addr → Prop) (d : D) (v : V) : Prop :=
  ∃ a o ds xs, Box d o ds xs ∧ v = .ref a ∧ H a = none ∧ H' a = some o ∧ DenL G H' (fun x => O x ∨ x = a) ds xs
theorem Fresh.den {d : D} {v : V} (b : Bnd G O H) (h : Fresh G H H' O d v) : Den G H' O d v := by
  obtain ⟨a, o, ds, xs, bx, rfl, n, e, r⟩ := h
  exact .ofBox bx e (fun z => b a z n) (r.tr ⟨fun _ _ e => e, fun _ _ _ e => e, fun c ys _ e n => ⟨e, fun z => n (.inl z)⟩⟩)
def Res (G : Gb) (H H' : Hp) (O : Addr → Prop) (d : DB) (v : V) : Prop := if d.2 = true then Fresh G H H' O d.1 v else Den G H' O d.1 v
theorem Res.den {d : DB} {v : V} (b : Bnd G O H) (h : Res G H H' O d v) : Den G H' O d.1 v := by
  unfold Res at h
  split at h
  · exact h.den b
  · exact h
theorem Res.of {d : D} {v : V} (h : Den G H' O d v) : Res G H H' O (d, false) v := by
  unfold Res
  rw [if_neg (by simp)]
  exact h
theorem Res.back {d : DB} {v : V} (s : Same G H H') (h : Res G H' H'' O d v) : Res G H H'' O d v := by
  unfold Res at h ⊢
  split
  · rename_i q
    rw [if_pos q] at h
    obtain ⟨a, o, ds, xs, e1, e2, n, e, r⟩ := h
    refine ⟨a, o, ds, xs, e1, e2, s.free n, e, r⟩
  · rename_i q
    rw [if_neg q] at h
    exact h
/-- a list is made at p -/
theorem Res.mk {p : Addr} {ds : List D} {vs : List V} (hp : H p = none) (b : Bnd G O H) (h : DenL G H O ds vs) : Res G H (upd H p (.lst vs)) O (.lst ds, true) (.ref p) := by
  unfold Res
  rw [if_pos rfl]
  refine ⟨p, _, ds, vs, .lst ds vs, rfl, hp, upd_same, h.tr (Tr.same (G := G) (same_new hp) fun a z => ?_)⟩
  rcases z with z | z
  · exact .inl z
  · exact .inr (z ▸ hp)
/-- a dict is made at p -/
theorem Res.mkD {p : Addr} (hp : H p = none) : Res G H (upd H p (.dT [])) O (.dct [] [], true) (.ref p) := by
  unfold Res
  rw [if_pos rfl]
  exact ⟨p, _, [], [], .dct [] [] [] rfl, rfl, hp, upd_same, .nil⟩
theorem Den.tupNew {p : Addr} {ds : List D} {vs : List V} {o : Obj} (hd : o.dict = none) (hp : H p = none) (h : DenL G H O ds vs) : Den G (upd H p (tO (fzD ds) o vs)) O (.tup ds) (.ref p) :=
  .tup hd upd_same (h.same (same_new hp))
end

/-- some object -/
def noO : Obj := { cls := .none, data := .fields #[] }
theorem Den.tupNew0 {G : Gb} {H : Hp} {O : Addr → Prop} {p : Addr} {ds : List D} {vs : List V} {o : Obj} (hd : o.dict = none) (hf : fzD ds = false) (hp : H p = none) (h : DenL G H O ds vs) : Den G (upd H p (.tup vs)) O (.tup ds) (.ref p) := by
  have := Den.tupNew (o := o) hd hp h
  rw [hf] at this
  exact this
theorem prs_app {xs ys : List D} (h : prs? xs = none) : prs? (xs ++ ys) = none := by
  induction xs with
  | nil => simp [prs?] at h
  | cons d r ih =>
    rw [List.cons_append]
    unfold prs? at h ⊢
    split at h
    · rename_i e; cases e
    · rename_i x e r' q
      cases q
      simp only [Option.map_eq_none_iff] at h
      simp only [ih h, Option.map_none]
    · rename_i d' r' no q
      cases q
      split
      · rename_i e; cases e
      · rename_i x e r2 q; cases q; exact absurd rfl (no x e)
      · rfl
theorem fz_app {xs ys : List D} (h : fzD xs = false) : fzD (xs ++ ys) = false := by
  unfold fzD at h ⊢
  cases e : prs? xs with
  | none => rw [prs_app e]; rfl
  | some q => rw [e] at h; cases h
theorem fz_rep {ds : List D} {c : Nat} (h : (!fzD ds) = true) (hc : 1 ≤ c) : fzD (List.replicate c ds).flatten = false := by
  cases c with
  | zero => omega
  | succ n =>
    rw [List.replicate_succ, List.flatten_cons]
    exact fz_app (by simpa using h)
theorem fz_int {ds : List D} {ns : List Int} (h : ints? ds = some ns) (hn : ns ≠ []) : fzD ds = false := by
  cases ds with
  | nil => simp only [ints?, Option.some.injEq] at h; exact absurd h.symm hn
  | cons d r => cases d <;> first | rfl | simp [ints?] at h
/-! ### data as the library has it -/
mutual
theorem dp_of {G : Gb} {H : Hp} {O : Addr → Prop} : ∀ {d : D} {v : V} {n : Nat}, dat n d = true → Den G H O d v → Dp G.K H v (toPy d)
  | .non, _, _, _, h => by cases h; exact .non
  | .bl _, _, _, _, h => by cases h; exact .bl _
  | .int _, _, _, _, h => by cases h; exact .int _
  | .str _, _, _, _, h => by cases h; exact .str _
  | .tup ds, _, 0, i, h => by simp [dat] at i
  | .tup ds, _, n + 1, i, h => by
    have i' : dats n ds = true := by simpa [dat] using i
    cases h with | tup _ q r => exact .tup (tO_sq q) (dpAll_of i' r)
  | .lst ds, _, 0, i, h => by simp [dat] at i
  | .lst ds, _, n + 1, i, h => by
    have i' : dats n ds = true := by simpa [dat] using i
    cases h with
    | lst q _ r => exact .lst (.inl (.inl q)) (dpAll_of i' r)
  | .fn _, _, n, i, h => by cases n <;> simp [dat] at i
  | .scr _, _, n, i, h => by cases n <;> simp [dat] at i
  | .dct _ _, _, n, i, h => by cases n <;> simp [dat] at i
  | .dcs _ _, _, n, i, h => by cases n <;> simp [dat] at i
theorem dpAll_of {G : Gb} {H : Hp} {O : Addr → Prop} : ∀ {ds : List D} {vs : List V} {n : Nat}, dats n ds = true → DenL G H O ds vs → DpAll G.K H vs (toPy.toPys ds)
  | [], _, _, _, h => by cases h; exact .nil
  | d :: ds, _, n, i, h => by
    have i' : dat n d = true ∧ dats n ds = true := by simpa [dats] using i
    cases h with | cons r t => exact .cons (dp_of i'.1 r) (dpAll_of i'.2 t)
end
mutual
theorem lay_of : ∀ {d : D} {n : Nat}, dat n d = true → (toPy d).canLay0 = true ∧ (toPy d).depth ≤ n
  | .non, _, _ => by simp [toPy, PyData.canLay0, PyData.depth]
  | .bl _, _, _ => by simp [toPy, PyData.canLay0, PyData.depth]
  | .int _, _, _ => by simp [toPy, PyData.canLay0, PyData.depth]
  | .str x, n, h => by
    have h' : PyData.strOk x = true := by cases n <;> simpa [dat] using h
    simp [toPy, PyData.canLay0, PyData.depth, h']
  | .tup ds, 0, i => by simp [dat] at i
  | .tup ds, n + 1, i => by
    have i' : dats n ds = true := by simpa [dat] using i
    have q := lays_of i'
    simp only [toPy, PyData.canLay0, PyData.depth]
    exact ⟨q.1, by omega⟩
  | .lst ds, 0, i => by simp [dat] at i
  | .lst ds, n + 1, i => by
    have i' : dats n ds = true := by simpa [dat] using i
    have q := lays_of i'
    simp only [toPy, PyData.canLay0, PyData.depth]
    exact ⟨q.1, by omega⟩
  | .fn _, n, i => by cases n <;> simp [dat] at i
  | .scr _, n, i => by cases n <;> simp [dat] at i
  | .dct _ _, n, i => by cases n <;> simp [dat] at i
  | .dcs _ _, n, i => by cases n <;> simp [dat] at i
theorem lays_of : ∀ {ds : List D} {n : Nat}, dats n ds = true → PyData.canLayAll0 (toPy.toPys ds) = true ∧ PyData.depthAll (toPy.toPys ds) ≤ n
  | [], _, _ => by simp [toPy.toPys, PyData.canLayAll0, PyData.depthAll]
  | d :: ds, n, i => by
    have i' : dat n d = true ∧ dats n ds = true := by simpa [dats] using i
    have q1 := lay_of i'.1
    have q2 := lays_of i'.2
    simp only [toPy.toPys, PyData.canLayAll0, PyData.depthAll]
    exact ⟨by simp [q1.1, q2.1], by omega⟩
end
theorem shaped_of {d : D} {n : Nat} (h : dat n d = true) (hn : n ≤ 64) : SeqAt.shaped (toPy d) = true := by
  have q := lay_of h
  unfold SeqAt.shaped
  rw [q.1, decide_eq_true (by omega)]
  rfl
mutual
theorem eqv_of : ∀ {a b : D} {n m : Nat}, dat n a = true → dat m b = true → PyData.eqv (toPy a) (toPy b) = eqD a b
  | .non, b, _, m, _, hb => by cases b <;> first | rfl | (cases m <;> simp [dat] at hb)
  | .bl _, b, _, m, _, hb => by cases b <;> first | rfl | (cases m <;> simp [dat] at hb)
  | .int _, b, _, m, _, hb => by cases b <;> first | rfl | (cases m <;> simp [dat] at hb)
  | .str _, b, _, m, _, hb => by cases b <;> first | rfl | (cases m <;> simp [dat] at hb)
  | .tup xs, b, 0, m, ha, hb => by simp [dat] at ha
  | .lst xs, b, 0, m, ha, hb => by simp [dat] at ha
  | .tup xs, b, n + 1, m, ha, hb => by
    have ha' : dats n xs = true := by simpa [dat] using ha
    cases b with
    | tup ys =>
      cases m with
      | zero => simp [dat] at hb
      | succ m =>
        have hb' : dats m ys = true := by simpa [dat] using hb
        simp only [toPy, PyData.eqv, eqD]
        exact eqvs_of ha' hb'
    | fn i => cases m <;> simp [dat] at hb
    | scr i => cases m <;> simp [dat] at hb
    | dct i j => cases m <;> simp [dat] at hb
    | dcs i j => cases m <;> simp [dat] at hb
    | _ => rfl
  | .lst xs, b, n + 1, m, ha, hb => by
    have ha' : dats n xs = true := by simpa [dat] using ha
    cases b with
    | lst ys =>
      cases m with
      | zero => simp [dat] at hb
      | succ m =>
        have hb' : dats m ys = true := by simpa [dat] using hb
        simp only [toPy, PyData.eqv, eqD]
        exact eqvs_of ha' hb'
    | fn i => cases m <;> simp [dat] at hb
    | scr i => cases m <;> simp [dat] at hb
    | dct i j => cases m <;> simp [dat] at hb
    | dcs i j => cases m <;> simp [dat] at hb
    | _ => rfl
  | .fn _, b, n, m, ha, hb => by cases n <;> simp [dat] at ha
  | .scr _, b, n, m, ha, hb => by cases n <;> simp [dat] at ha
  | .dct _ _, b, n, m, ha, hb => by cases n <;> simp [dat] at ha
  | .dcs _ _, b, n, m, ha, hb => by cases n <;> simp [dat] at ha
theorem eqvs_of : ∀ {a b : List D} {n m : Nat}, dats n a = true → dats m b = true → PyData.eqvAll (toPy.toPys a) (toPy.toPys b) = eqDs a b
  | [], [], _, _, _, _ => by simp [toPy.toPys, PyData.eqvAll, eqDs]
  | [], _ :: _, _, _, _, _ => by simp [toPy.toPys, PyData.eqvAll, eqDs]
  | _ :: _, [], _, _, _, _ => by simp [toPy.toPys, PyData.eqvAll, eqDs]
  | x :: xs, y :: ys, n, m, ha, hb => by
    have ha' : dat n x = true ∧ dats n xs = true := by simpa [dats] using ha
    have hb' : dat m y = true ∧ dats m ys = true := by simpa [dats] using hb
    simp only [toPy.toPys, PyData.eqvAll, eqDs]
    rw [eqv_of ha'.1 hb'.1, eqvs_of ha'.2 hb'.2]
end
end SS

set_option maxRecDepth 100000
set_option maxHeartbeats 4000000
/-! SS1: tuples whose object is known to have no dict of its own; dict(pairs) -/
namespace SS
open PySem PySem.Spec PyProof.Rows L2
/-- a new tuple -/
def NewT (b : Bool) (xs : List V) (Q : VK) (H : Hp) : Prop := ∀ p o, H p = none → o.dict = none → Q (.ref p) (upd H p (tO b o xs))
section
variable {X : Cx}
theorem new_done {pins : List (Addr × Obj)} {σ : L2.St} {H : Hp} {s : Shared} {xs : List V} {us : List Value} {Q : VK} {b : Bool} (I : Inv X pins σ H s) (r : Vals xs us) (z : xs.length ≤ sizeLine) (q : NewT b xs Q H) :
    EP X pins σ Q (.ref s.heap.objs.size) { s with heap := s.heap.push { cls := .type "tuple", data := .seq us.toArray } } := by
  have e := Heap.get?_push_size s.heap (o := { cls := .type "tuple", data := .seq us.toArray }) rfl
  refine ⟨.ref s.heap.objs.size, _, I.laid (t' := s.toks) (o := tO b { cls := .type "tuple", data := .seq us.toArray } xs) (fun c ob q => Heap.get?_push_of_some _ q) (Nat.le_refl _) ?_, rfl, q _ _ (I.hok.fresh (Nat.le_refl _)) rfl⟩
  exact tO_ok ⟨z, us, r, IsTup.new _ _⟩ e
/-- a display -/
def tTupP (t : TA) : TE := fun σ H Q => t σ H fun xs H1 => xs.length ≤ sizeLine ∧ ∃ b, NewT b xs Q H1
theorem pe_tupP {es : List Expr} {t : TA} {x1 : Nat} {pos : Pos} (h : PA X es t) : PE X (.Tuple es x1 pos) (tTupP t) := by
  refine ⟨fun pins s σ H Q I hq => ?_⟩
  exact wpAny_Tuple_spliced (thn (h.run pos pins s σ H _ I hq) fun us s1 ⟨xs, H1, I1, r, z, b, q⟩ => ⟨by rw [← r.length]; exact z, new_done I1 r z q⟩)
/-- tuple(xs) -/
theorem call_tupleP : CallR X (.type "tuple") (fun xs H Q => ∃ p ys, xs = [.ref p] ∧ ((SqL X.K H p ys ∧ ∃ b, NewT b ys Q H) ∨ (SqT X.K H p ys ∧ Q (.ref p) H))) := by
  intro pins s σ H xs us Q I r h
  obtain ⟨p, ys, ex, h⟩ := h
  subst ex
  obtain ⟨u, eu, rx⟩ := vals1 r
  subst eu
  cases rx
  rcases h with ⟨hq, b, q⟩ | ⟨hq, q⟩
  · obtain ⟨its, r', pl, hz⟩ := I.list hq
    have hlen := r'.length
    refine call_tuple_list pl.isList (fun h' kp => ?_) (by simp only [List.size_toArray] <;> omega)
    exact new_done (I.kept (t' := s.toks) kp) r' hz q
  · obtain ⟨its, r', pl, hz⟩ := I.tuple hq
    exact call_tuple_same pl ⟨.ref p, H, I, rfl, q⟩
/-- tuple(range(..)) -/
def tTupRgP (te : L2.St → Hp → (Int → Int → Hp → Prop) → Prop) : TE := fun σ H Q => te σ H fun a b H1 => RgOk a b ∧ ∃ c, NewT c (rgV a b) Q H1
theorem pe_tupRgP {e : Expr} {te : L2.St → Hp → (Int → Int → Hp → Prop) → Prop} {p pos : Pos} (hc : X.calm = true) (hg : Gl X "tuple") (hm : X.mg "tuple" = none) (he : PRg X e te) (na : starEach [e] X.env = (false, eval e X.env) :: starEach [] X.env := by rfl) :
    PE X (.Call (.Name "tuple" p) [e] [] pos) (tTupRgP te) := by
  refine ⟨fun pins s σ H Q I h => ?_⟩
  refine Call_ (ld_blt I hg hm boot_tuple (PyProof.Rows.callWith_type1 (args_cons (thn (he pins s σ H _ I h) fun x s1 ⟨r, a, b, t, u, v, H1, ex, hr, I1, ok, c, q⟩ => args_nil ?_) na) na))
  subst ex
  obtain ⟨b1, b2, b3, b4, b5⟩ := ok
  refine call_tuple_range (n := (b - a).toNat) (I1.ok.hd hc) hr (small_one b1 b2 b3 b4) (rangeSize_nat a b) b5 fun h' tk acc hk hi => ?_
  have I2 : Inv X pins σ H1 { s1 with heap := h', toks := tk } := I1.kept hk
  have := new_done (us := acc.toList) I2 (vals_rg hi) (by rw [rgV_length, sizeLine_eq]; omega) q
  rw [Array.toArray_toList] at this
  exact this
/-- t + u -/
def rCatP (K : PySem.W.Frag) : R2 := fun x y H Q => ∃ a b xs ys, x = .ref a ∧ y = .ref b ∧ SqT K H a xs ∧ SqT K H b ys ∧ xs.length + ys.length ≤ sizeLine ∧
  (xs = [] → Q (.ref b) H) ∧ (xs ≠ [] → ys = [] → Q (.ref a) H) ∧ (xs ≠ [] → ys ≠ [] → ∃ c, NewT c (xs ++ ys) Q H)
theorem op_catP : OpR X (binaryOp .Add) (rCatP X.K) := by
  intro pins s σ H x y v u Q I rx ry h
  obtain ⟨a, b, xs, ys, ex, ey, ha, hb, hz, q0, q1, q2⟩ := h
  subst ex ey
  cases rx
  cases ry
  obtain ⟨its, r1, p1, _⟩ := I.tuple ha
  obtain ⟨its2, r2, p2, _⟩ := I.tuple hb
  by_cases hx : xs = []
  · have e : its = [] := r1.nil_iff.mpr hx
    subst e
    exact cat_tup0 p1 p2 ⟨.ref b, H, I, rfl, q0 hx⟩
  · refine HT.cat_tup p1 p2 (fun z => hx (r1.nil_iff.mp z)) (fun z => ⟨.ref a, H, I, rfl, q1 hx (r2.nil_iff.mp z)⟩) (fun z => ?_) (by rw [← r1.length, ← r2.length]; exact hz)
    obtain ⟨c, q⟩ := q2 hx fun w => z (r2.nil_iff.mpr w)
    exact new_done I (r1.append r2) (by rw [List.length_append]; exact hz) q
/-- t[lo:hi] -/
def rSlP (K : PySem.W.Frag) : V → Option Int → Option Int → Hp → VK → Prop := fun x lo hi H Q => ∃ a xs, x = .ref a ∧ SqT K H a xs ∧
  (HT.sIx xs.length 0 lo = 0 ∧ HT.sIx xs.length xs.length hi = xs.length → Q (.ref a) H) ∧ (¬ (HT.sIx xs.length 0 lo = 0 ∧ HT.sIx xs.length xs.length hi = xs.length) → ∃ c, NewT c (cutV xs lo hi) Q H)
theorem sl_tupP : SlR X (rSlP X.K) := by
  intro pins s σ H x v vl vu lo hi sl Q I rx hs pl pu h
  obtain ⟨a, xs, ex, hx, q1, q2⟩ := h
  subst ex
  cases rx
  obtain ⟨its, r, ht, hz⟩ := I.tuple hx
  have hlen : its.toArray.size = xs.length := by rw [List.size_toArray]; exact r.length.symm
  refine ⟨"tuple", _, PyProof.Rows.slot_tuple_getitem.lookup, ht.typeIs, ?_⟩
  by_cases hw : HT.sIx xs.length 0 lo = 0 ∧ HT.sIx xs.length xs.length hi = xs.length
  · exact getItem_tuple_whole ht hs pl pu (by rw [hlen]; exact hw) ⟨.ref a, H, I, rfl, q1 hw⟩
  · obtain ⟨c, q⟩ := q2 hw
    refine HT.getItem_tuple_cut ht hs pl pu (by rw [hlen]; exact hw) ?_ (by rw [hlen]; exact hz)
    rw [hlen]
    exact new_done I ((r.drop _).take _) (Nat.le_trans (cutV_length xs lo hi) hz) q
end

/-! ### zip: the new pairs -/
def zpO (u u2 : Value) : Obj := { cls := .type "tuple", data := .seq #[u, u2] }
def ItzP (K : PySem.W.Frag) (f : Nat → Bool) (a b : Addr) : It :=
  { go := (Itz K a b).go, stop := (Itz K a b).stop
    yld := fun i H v H' => ∃ T x y o, v = .ref T ∧ H T = none ∧ o.dict = none ∧ H' = upd H T (tO (f i) o [x, y]) ∧ (∀ xs, SqL K H a xs → xs[i]? = some x) ∧ ∀ ys, SqL K H b ys → ys[i]? = some y }
def ItzQ (K : PySem.W.Frag) (f : Nat → Bool) (a b : Addr) : It :=
  { go := (RZ.ItzT K a b).go, stop := (RZ.ItzT K a b).stop
    yld := fun i H v H' => ∃ T x y o, v = .ref T ∧ H T = none ∧ o.dict = none ∧ H' = upd H T (tO (f i) o [x, y]) ∧ (∀ xs, SqT K H a xs → xs[i]? = some x) ∧ ∀ ys, SqT K H b ys → ys[i]? = some y }
section
variable {X : Cx}
/-- the state of a zip -/
structure Zst (h : Heap) (z TI TO i1 i2 : Addr) : Prop where
  z : IsZip h z TI TO .none
  ti : IsPair h TI (.ref i1) (.ref i2)
  to : ∃ x y, IsPair h TO x y
/-- what one turn of a zip comes to -/
theorem zip_turn {pins : List (Addr × Obj)} {σ : L2.St} {H : Hp} {s : Shared} {E : Value → Shared → Prop} {elts : List Expr} {kk : Nat} {tpos : Pos} {a b z TI TO i1 i2 : Addr} (D : ZipApart z TI TO i1 i2 a b) {x y : V} {u u2 : Value} {J : It} {tn : Nat → Heap → Prop} {i : Nat} {c : Bool}
    (I : Inv X pins σ H s) (hf : ∀ b ∈ [z, TI, TO, i1, i2], FpOk X pins H b) (st : Zst s.heap z TI TO i1 i2) (ex1 : ∃ o, s.heap.get? i1 = some o) (ex2 : ∃ o, s.heap.get? i2 = some o) (ru : RelV x u) (ru2 : RelV y u2)
    {h' : Heap} (z' : IsZip h' z TI TO (rawInt s.heap.objs.size)) (to' : IsPair h' TO u u2) (hT : IsPair h' s.heap.objs.size u u2) (hk : ∀ c o, c ≠ z → c ≠ TO → c ≠ i1 → c ≠ i2 → s.heap.get? c = some o → h'.get? c = some o)
    (yl : ∀ o, o.dict = none → H s.heap.objs.size = none → J.yld i H (.ref s.heap.objs.size) (upd H s.heap.objs.size (tO c o [x, y])))
    (nx : ∀ h'', Zst h'' z TI TO i1 i2 → (∀ c o, (c = i1 ∨ c = i2) → h'.get? c = some o → h''.get? c = some o) → tn (i + 1) h'') :
    wpAny (model X.prog X.w) X.A (letOwnedTupleGo (.Tuple elts kk tpos) (.ref z) (.ref s.heap.objs.size)) (fun _ s2 => ∃ v H', Inv X pins σ H' s2 ∧ RelV v (.ref s.heap.objs.size) ∧ J.yld i H v H' ∧ tn (i + 1) s2.heap ∧ ∀ b ∈ [z, TI, TO, i1, i2], H' b = none) E { s with heap := h' } := by
  have hzl : z < s.heap.objs.size := Heap.lt_size st.z
  refine wpAny_letOwnedTupleGo_zip (s := { s with heap := h' }) z' fun h'' z'' sb => ?_
  have hT2 : h''.get? s.heap.objs.size = some (zpO u u2) := (sb.2 _ (Nat.ne_of_gt hzl)).trans hT
  have new : ObjOk X.prog X.w (upd H s.heap.objs.size (tO c (zpO u u2) [x, y])) h'' s.heap.objs.size (tO c (zpO u u2) [x, y]) :=
    tO_ok ⟨by show 2 ≤ sizeLine; decide, [u, u2], .cons ru (.cons ru2 .nil), ⟨_, hT2, rfl, _, rfl⟩⟩ hT2
  have off : ∀ c, c ∉ [z, TI, TO, i1, i2] → c ≠ z ∧ c ≠ TO ∧ c ≠ i1 ∧ c ≠ i2 := fun c hb => ⟨fun q => hb (by simp [q]), fun q => hb (by simp [q]), fun q => hb (by simp [q]), fun q => hb (by simp [q])⟩
  have I1 : Inv X pins σ (upd H s.heap.objs.size (tO c (zpO u u2) [x, y])) { s with heap := h'' } :=
    I.turnedNew (t' := s.toks) (ch := [z, TI, TO, i1, i2]) (fun c o hb q => (sb.2 c (off c hb).1).trans (hk c o (off c hb).1 (off c hb).2.1 (off c hb).2.2.1 (off c hb).2.2.2 q)) hf (Nat.le_refl _) new
  refine ⟨.ref s.heap.objs.size, _, I1, rfl, yl _ rfl (I.hok.fresh (Nat.le_refl _)), nx h'' ⟨z'', (sb.2 _ D.TIz).trans (hk _ _ D.TIz D.TITO D.TIi1 D.TIi2 st.ti), ⟨u, u2, (sb.2 _ D.TOz).trans to'⟩⟩ fun c o hc e => ?_, fun c hcm => ?_⟩
  · rcases hc with rfl | rfl
    · exact (sb.2 _ D.i1z).trans e
    · exact (sb.2 _ D.i2z).trans e
  · have hlt : c < s.heap.objs.size := by
      have e' : c = z ∨ c = TI ∨ c = TO ∨ c = i1 ∨ c = i2 := by simpa using hcm
      rcases e' with q | q | q | q | q
      · rw [q]; exact hzl
      · rw [q]; exact Heap.lt_size st.ti
      · rw [q]; obtain ⟨_, _, e⟩ := st.to; exact Heap.lt_size e
      · rw [q]; obtain ⟨_, e⟩ := ex1; exact Heap.lt_size e
      · rw [q]; obtain ⟨_, e⟩ := ex2; exact Heap.lt_size e
    rw [upd_ne (Nat.ne_of_lt hlt)]
    exact (hf c hcm).1
end
section
variable {P : Program} {w : World} {K : PySem.W.Frag} {elts : List Expr} {kk : Nat} {tpos : Pos} {a b z TI TO i1 i2 : Addr}
theorem turn_zP (f : Nat → Bool) (D : ZipApart z TI TO i1 i2 a b) :
    Turn P w K (.Tuple elts kk tpos) (ItzP K f a b) [z, TI, TO, i1, i2] z (fun i h => IsZip h z TI TO .none ∧ IsPair h TI (.ref i1) (.ref i2) ∧ (∃ x y, IsPair h TO x y) ∧ h.IsListIter i1 a i ∧ h.IsListIter i2 b i) :=
  { mem := (turn_zip (P := P) (w := w) (K := K) (elts := elts) (kk := kk) (tpos := tpos) D).mem
    obj := (turn_zip (P := P) (w := w) (K := K) (elts := elts) (kk := kk) (tpos := tpos) D).obj
    keep := (turn_zip (P := P) (w := w) (K := K) (elts := elts) (kk := kk) (tpos := tpos) D).keep
    done := (turn_zip (P := P) (w := w) (K := K) (elts := elts) (kk := kk) (tpos := tpos) D).done
    self := (turn_zip (P := P) (w := w) (K := K) (elts := elts) (kk := kk) (tpos := tpos) D).self
    item := by
      intro X hP hw hK hc i pins s σ H E I hf st hg
      subst hP hw hK
      obtain ⟨hz, hTI, hTO, h1, h2⟩ := st
      have st0 : Zst s.heap z TI TO i1 i2 := ⟨hz, hTI, hTO⟩
      obtain ⟨x0, y0, hTO⟩ := hTO
      obtain ⟨xs, ys, x, y, hqx, hqy, hx, hy⟩ := hg
      obtain ⟨its, rv, p, _⟩ := I.list hqx
      obtain ⟨its2, rv2, p2, _⟩ := I.list hqy
      obtain ⟨u, hu, ru⟩ := rv.get hx
      obtain ⟨u2, hu2, ru2⟩ := rv2.get hy
      refine wpAny_pyNext_zip_item D hz hTI hTO h1 h2 p.isList p2.isList (x := u) (y := u2) (by simpa using hu) (by simpa using hu2) fun h' z' TO' h1' h2' hT hsz hk => ⟨_, rfl, ?_⟩
      exact zip_turn (c := f i) (J := ItzP X.K f a b) (tn := fun i h => IsZip h z TI TO .none ∧ IsPair h TI (.ref i1) (.ref i2) ∧ (∃ x y, IsPair h TO x y) ∧ h.IsListIter i1 a i ∧ h.IsListIter i2 b i) D I hf st0 (by obtain ⟨o, e, _⟩ := h1; exact ⟨o, e⟩) (by obtain ⟨o, e, _⟩ := h2; exact ⟨o, e⟩) ru ru2 z' TO' hT hk
        (fun o hd hn => ⟨_, x, y, o, rfl, hn, hd, rfl, fun l hl => by rw [I.list_inj hl hqx]; exact hx, fun l hl => by rw [I.list_inj hl hqy]; exact hy⟩)
        fun h'' st2 k => ⟨st2.z, st2.ti, st2.to, h1'.at fun o q => k _ _ (.inl rfl) q, h2'.at fun o q => k _ _ (.inr rfl) q⟩ }
theorem turn_zQ (f : Nat → Bool) (D : ZipApart z TI TO i1 i2 a b) :
    Turn P w K (.Tuple elts kk tpos) (ItzQ K f a b) [z, TI, TO, i1, i2] z (fun i h => IsZip h z TI TO .none ∧ IsPair h TI (.ref i1) (.ref i2) ∧ (∃ x y, IsPair h TO x y) ∧ h.IsTupleIter i1 a i ∧ h.IsTupleIter i2 b i) :=
  { mem := (RZ.turn_zipT (P := P) (w := w) (K := K) (elts := elts) (kk := kk) (tpos := tpos) D).mem
    obj := (RZ.turn_zipT (P := P) (w := w) (K := K) (elts := elts) (kk := kk) (tpos := tpos) D).obj
    keep := (RZ.turn_zipT (P := P) (w := w) (K := K) (elts := elts) (kk := kk) (tpos := tpos) D).keep
    done := (RZ.turn_zipT (P := P) (w := w) (K := K) (elts := elts) (kk := kk) (tpos := tpos) D).done
    self := (RZ.turn_zipT (P := P) (w := w) (K := K) (elts := elts) (kk := kk) (tpos := tpos) D).self
    item := by
      intro X hP hw hK hc i pins s σ H E I hf st hg
      subst hP hw hK
      obtain ⟨hz, hTI, hTO, h1, h2⟩ := st
      have st0 : Zst s.heap z TI TO i1 i2 := ⟨hz, hTI, hTO⟩
      obtain ⟨x0, y0, hTO⟩ := hTO
      obtain ⟨xs, ys, x, y, hqx, hqy, hx, hy⟩ := hg
      obtain ⟨its, rv, p, _⟩ := I.tuple hqx
      obtain ⟨its2, rv2, p2, _⟩ := I.tuple hqy
      obtain ⟨u, hu, ru⟩ := rv.get hx
      obtain ⟨u2, hu2, ru2⟩ := rv2.get hy
      refine RZ.pyNext_zipT_item D hz hTI hTO h1 h2 p p2 (x := u) (y := u2) (by simpa using hu) (by simpa using hu2) fun h' z' TO' h1' h2' hT hsz hk => ⟨_, rfl, ?_⟩
      exact zip_turn (c := f i) (J := ItzQ X.K f a b) (tn := fun i h => IsZip h z TI TO .none ∧ IsPair h TI (.ref i1) (.ref i2) ∧ (∃ x y, IsPair h TO x y) ∧ h.IsTupleIter i1 a i ∧ h.IsTupleIter i2 b i) D I hf st0 (by obtain ⟨o, e, _⟩ := h1; exact ⟨o, e⟩) (by obtain ⟨o, e, _⟩ := h2; exact ⟨o, e⟩) ru ru2 z' TO' hT hk
        (fun o hd hn => ⟨_, x, y, o, rfl, hn, hd, rfl, fun l hl => by rw [I.tuple_inj hl hqx]; exact hx, fun l hl => by rw [I.tuple_inj hl hqy]; exact hy⟩)
        fun h'' st2 k => ⟨st2.z, st2.ti, st2.to, h1'.at fun o q => k _ _ (.inl rfl) q, h2'.at fun o q => k _ _ (.inr rfl) q⟩ }
end
/-- zip of two lists, of two tuples; fl and ft tell which pairs dict() may be asked for -/
def iZipP (K : PySem.W.Frag) (ta : TA) : TI := fun σ H R => ta σ H fun vs H1 => ∃ a b xs ys f, vs = [.ref a, .ref b] ∧ ((SqL K H1 a xs ∧ SqL K H1 b ys ∧ R (ItzP K f a b) H1) ∨ (SqT K H1 a xs ∧ SqT K H1 b ys ∧ R (ItzQ K f a b) H1))
theorem pi_zipP {X : Cx} {e e2 : Expr} {ta : TA} {p pos tpos : Pos} {elts : List Expr} {kk : Nat} (hg : Gl X "zip") (hm : X.mg "zip" = none) (ha : PA X [e, e2] ta)
    (hs : starEach [e, e2] X.env = (false, eval e X.env) :: starEach [e2] X.env := by rfl) (hpl : (backTo pos (starEach [e2] X.env)).any (·.1) = false := by rfl) :
    PI X (.Tuple elts kk tpos) (.Call (.Name "zip" p) [e, e2] [] pos) (iZipP X.K ta) := by
  refine ⟨fun pins s σ H R I h => ?_⟩
  refine Call_ (ld_blt I hg hm PyProof.Rows.boot_zip (PyProof.Rows.callWith_type1 (thn (ha.run pos pins s σ H _ I h) fun us s1 ⟨vs, H1, I1, r1, q1⟩ => ?_) hs hpl))
  obtain ⟨a, b, xs, ys, f, ex, q1⟩ := q1
  subst ex
  obtain ⟨u, v, eu, ra, rb⟩ := vals2 r1
  subst eu
  cases ra
  cases rb
  have fresh5 : ∀ c, c ∈ [s1.heap.objs.size + 4, s1.heap.objs.size + 2, s1.heap.objs.size + 3, s1.heap.objs.size, s1.heap.objs.size + 1] → FpOk X pins H1 c := fun c hcm => by
    have hle : s1.heap.objs.size ≤ c := by
      simp only [List.mem_cons, List.not_mem_nil, or_false] at hcm
      omega
    exact I1.fpOk hle (I1.hok.fresh hle)
  rcases q1 with ⟨hqx, hqy, q⟩ | ⟨hqx, hqy, q⟩
  · obtain ⟨its, rv, p1, _⟩ := I1.list hqx
    obtain ⟨its2, rv2, p2, _⟩ := I1.list hqy
    refine call_zip_2 p1.isList p2.isList fun h' hz hTI hTO h1 h2 hsz hk => wpAny_pyIter_zip hz ?_
    exact ⟨_, _, _, _, H1, rfl, I1.kept (t' := s1.toks) hk, turn_zP f (PySem.W.ktu_apart s1.heap.objs.size a b p1.lt p2.lt), ⟨hz, hTI, ⟨_, _, hTO⟩, h1, h2⟩, fresh5, q⟩
  · obtain ⟨its, rv, p1, _⟩ := I1.tuple hqx
    obtain ⟨its2, rv2, p2, _⟩ := I1.tuple hqy
    refine RZ.call_zipT (show s1.heap.IsTuple a its.toArray from p1) (show s1.heap.IsTuple b its2.toArray from p2) fun h' hz hTI hTO h1 h2 hsz hk => wpAny_pyIter_zip hz ?_
    exact ⟨_, _, _, _, H1, rfl, I1.kept (t' := s1.toks) hk, turn_zQ f (PySem.W.ktu_apart s1.heap.objs.size a b p1.lt p2.lt), ⟨hz, hTI, ⟨_, _, hTO⟩, h1, h2⟩, fresh5, q⟩

/-! ### dict(pairs) -/
section
variable {X : Cx}
theorem pairs_at {pins : List (Addr × Obj)} {σ : L2.St} {H : Hp} {s : Shared} (I : Inv X pins σ H s) : ∀ {as : List Addr} {kvs : List (Key × V)}, Paired (fun p kv => SqT X.K H p [kV kv.1, kv.2]) as kvs →
    ∃ (ws : List (Value × Value)) (prs : List (Key × Value)), KV kvs prs ∧ ws.length = as.length ∧ prs.length = as.length ∧
      ∀ (j : Nat) (k v : Value), ws[j]? = some (k, v) → ∃ b, as[j]? = some b ∧ PairAt s.heap b k v ∧ ∃ q, prs[j]? = some (q, v) ∧ (mixKind X.prog X.w).is q k = true
  | _, _, .nil => ⟨[], [], .nil, rfl, rfl, fun j k v e => by simp at e⟩
  | _, _, .cons (a := p) (b := kv) h t => by
    obtain ⟨ws, prs, r, l1, l2, hp⟩ := pairs_at I t
    obtain ⟨its, rv, ht, _⟩ := I.tuple h
    obtain ⟨u, y, ei, ru, ry⟩ := vals2 rv
    subst ei
    refine ⟨(u, y) :: ws, (kv.1, y) :: prs, .cons ⟨rfl, ry⟩ r, by rw [List.length_cons, List.length_cons, l1], by rw [List.length_cons, List.length_cons, l2], fun j k v e => ?_⟩
    cases j with
    | zero =>
      have e' : (u, y) = (k, v) := Option.some.inj e
      cases e'
      exact ⟨p, rfl, .inl ht, kv.1, rfl, kV_is ru⟩
    | succ j =>
      obtain ⟨b, e1, e2, q, e3, e4⟩ := hp j k v (by simpa using e)
      exact ⟨b, by simpa using e1, e2, q, by simpa using e3, e4⟩
/-- a list, or a tuple without a dict of its own -/
def PlV (K : PySem.W.Frag) (H : Hp) (a : Addr) (xs : List V) : Prop := SqL K H a xs ∨ ∃ o : Obj, o.dict = none ∧ H a = some (.frz o (.tup xs))
theorem call_dictB (hcalm : X.calm = true) : CallR X (.type "dict") (fun xs H Q => ∃ (a : Addr) (as : List Addr) (kvs : List (Key × V)), xs = [.ref a] ∧ PlV X.K H a (as.map V.ref) ∧ Paired (fun p kv => SqT X.K H p [kV kv.1, kv.2]) as kvs ∧
    ∀ p, H p = none → Q (.ref p) (upd H p (.dK (mergeK [] kvs)))) := by
  intro pins s σ H xs us Q I r q
  obtain ⟨a, as, kvs, ex, hq, hp, q⟩ := q
  subst ex
  obtain ⟨u, eu, rx⟩ := vals1 r
  subst eu
  cases rx
  obtain ⟨ws, prs, rel, l1, l2, hpr⟩ := pairs_at I hp
  have hh := I.ok.hd hcalm
  have Tsx : ∀ j b, as[j]? = some b → as.getD j 0 = b := fun j b e => by rw [List.getD_eq_getElem?_getD, e]; rfl
  have pit : PairItems s.heap (as.map Value.ref).toArray (fun j => as.getD j 0) ws := by
    refine ⟨by simp [l1], fun j k v e => ?_⟩
    obtain ⟨b, e1, e2, _⟩ := hpr j k v e
    have ez := Tsx j b e1
    show (List.map Value.ref as).toArray[j]? = some (Value.ref (as.getD j 0)) ∧ PairAt s.heap (as.getD j 0) k v
    rw [ez]
    exact ⟨by simp [e1], e2⟩
  have hav : PairsHave (mixKind X.prog X.w) ws.length (PairRel ws) prs := ⟨by rw [l1, l2], fun i k v e => by
    obtain ⟨b, _, _, q, e3, e4⟩ := hpr i k v e
    exact ⟨q, e3, e4⟩⟩
  have fin : ∀ (h' : Heap) (tk : Nat), as.length ≤ sizeLine → h'.DictOf (mixKind X.prog X.w) s.heap.objs.size (merged [] prs) → (∀ b o, b ∉ ([] : List Addr) → s.heap.get? b = some o → h'.get? b = some o) →
      EP X pins σ Q (.ref s.heap.objs.size) { s with heap := h', toks := tk } := fun h' tk hz hd k => by
    have hm : (s.heap.objs.size == sysModules) = false := beq_eq_false_iff_ne.mpr (Nat.ne_of_gt I.big)
    have hlen : (mergeK [] kvs).length ≤ sizeLine := by
      refine Nat.le_trans (length_mergeK kvs []) ?_
      rw [List.length_nil, Nat.zero_add, rel.length, l2]
      exact hz
    exact ⟨.ref s.heap.objs.size, upd H s.heap.objs.size (.dK (mergeK [] kvs)), I.laid (t' := tk) (fun b o e => k b o (by simp) e) (Nat.le_refl _) (show ObjOk X.prog X.w _ _ _ (.dK (mergeK [] kvs)) from ⟨hlen, hm, merged [] prs, KV.merge rel .nil, hd⟩), rfl, q _ (I.hok.fresh (Nat.le_refl _))⟩
  rcases hq with hq | ⟨o, od, hq⟩
  · obtain ⟨its, rv, pl, hz⟩ := I.list hq
    have ei := refs_at rv
    subst ei
    rw [List.length_map] at hz
    obtain ⟨o, n, ho, hc, hd, hdat⟩ := pl
    exact PySem.call_dict_pairs (PairArg.list a (as.map Value.ref).toArray (fun j => as.getD j 0) ws) hh ⟨⟨o, n, ho, hc, hd, hdat⟩, pit⟩ hav (by rw [l1]; exact hz) fun h' tk hd' hk => fin h' tk hz hd' hk
  · obtain ⟨ho, hz, its, rv, o2, ho2, hc, n, hdat⟩ := I.hok a _ hq
    rw [ho] at ho2
    cases ho2
    have ei := refs_at rv
    subst ei
    rw [List.length_map] at hz
    exact PySem.call_dict_pairs (PairArg.tuple a (as.map Value.ref).toArray (fun j => as.getD j 0) ws) hh ⟨⟨o, n, ho, hc, od, hdat⟩, pit⟩ hav (by rw [l1]; exact hz) fun h' tk hd' hk => fin h' tk hz hd' hk
end
end SS

set_option maxRecDepth 100000
set_option maxHeartbeats 4000000
/-! SSC: readings and the plain rules -/
namespace SS
open PySem PySem.Spec PyProof.Rows L2
abbrev Sg := L2.St

/-- the slots tell the environment -/
def Rd (G : Gb) (ρ : Ev) (σ : Sg) (H : Hp) (O : Addr → Prop) : Prop := ρ.length = σ.length ∧ ∀ (i : Nat) (d : D), ρ[i]? = some (some d) → ∃ v, σ[i]? = some (some v) ∧ Den G H O d v
theorem Rd.same {G : Gb} {ρ : Ev} {σ : Sg} {H H' : Hp} {O : Addr → Prop} (s : Same G H H') (h : Rd G ρ σ H O) : Rd G ρ σ H' O := ⟨h.1, fun i d e => by
  obtain ⟨v, h1, h2⟩ := h.2 i d e
  exact ⟨v, h1, h2.same s⟩⟩

/-- what is wanted of a result -/
def kE (G : Gb) (W : WX) (σ : Sg) (O : Addr → Prop) (H : Hp) (Q : VK) (r : R DB) : Prop := match r with
  | .ok db => ∀ v H', Same G H H' → Res G H H' O db v → Q v H'
  | .err c => ∀ H', Same G H H' → W (.ref (G.ca c)) none σ H'
  | .bad => False
def kT (G : Gb) (W : WX) (σ : Sg) (H : Hp) (Q : Bool → Hp → Prop) (r : R Bool) : Prop := match r with
  | .ok b => ∀ H', Same G H H' → Q b H'
  | .err c => ∀ H', Same G H H' → W (.ref (G.ca c)) none σ H'
  | .bad => False
def kA (G : Gb) (W : WX) (σ : Sg) (O : Addr → Prop) (H : Hp) (Q : List V → Hp → Prop) (r : R (List D)) : Prop := match r with
  | .ok ds => ∀ vs H', Same G H H' → DenL G H' O ds vs → Q vs H'
  | .err c => ∀ H', Same G H H' → W (.ref (G.ca c)) none σ H'
  | .bad => False
/-- the readings -/
def rdE (G : Gb) (W : WX) (f : Ev → R DB) : TE := fun σ H Q => ∃ (ρ : Ev) (O : Addr → Prop), Bnd G O H ∧ Rd G ρ σ H O ∧ kE G W σ O H Q (f ρ)
def rdT (G : Gb) (W : WX) (f : Ev → R Bool) : TT := fun σ H Q => ∃ (ρ : Ev) (O : Addr → Prop), Bnd G O H ∧ Rd G ρ σ H O ∧ kT G W σ H Q (f ρ)
def rdA (G : Gb) (W : WX) (f : Ev → R (List D)) : TA := fun σ H Q => ∃ (ρ : Ev) (O : Addr → Prop), Bnd G O H ∧ Rd G ρ σ H O ∧ kA G W σ O H Q (f ρ)

theorem PE_imp {X : Cx} {e : Expr} {t t' : TE} (h : PE X e t) (k : ∀ σ H Q, t' σ H Q → t σ H Q) : PE X e t' := ⟨fun pins s σ H Q I q => h.run pins s σ H Q I (k _ _ _ q)⟩
theorem PT_imp {X : Cx} {e : Expr} {t t' : TT} (h : PT X e t) (k : ∀ σ H Q, t' σ H Q → t σ H Q) : PT X e t' := ⟨fun pins s σ H Q I q => h.run pins s σ H Q I (k _ _ _ q)⟩
theorem PW_imp {X : Cx} {e : Expr} {t t' : TT} (h : PW X e t) (k : ∀ σ H Q, t' σ H Q → t σ H Q) : PW X e t' := ⟨fun wh pins s σ H Q I q => h.run wh pins s σ H Q I (k _ _ _ q)⟩
theorem PA_imp {X : Cx} {e : List Expr} {t t' : TA} (h : PA X e t) (k : ∀ σ H Q, t' σ H Q → t σ H Q) : PA X e t' := ⟨fun pos pins s σ H Q I q => h.run pos pins s σ H Q I (k _ _ _ q)⟩
theorem PS_imp {X : Cx} {e : Stmt} {t t' : TS} (h : PS X e t) (k : ∀ D σ H, t' D σ H → t D σ H) : PS X e t' := ⟨fun pins s σ H D I q => h.run pins s σ H D I (k _ _ _ q)⟩

section
variable {G : Gb} {W : WX} {X : Cx}
theorem kE.same {σ : Sg} {O : Addr → Prop} {H H1 : Hp} {Q : VK} {r : R DB} (s : Same G H H1) (h : kE G W σ O H Q r) : kE G W σ O H1 Q r := by
  cases r with
  | ok db => exact fun v H' s' r' => h v H' (s.trans s') (r'.back s)
  | err c => exact fun H' s' => h H' (s.trans s')
  | bad => exact h
theorem kT.same {σ : Sg} {H H1 : Hp} {Q : Bool → Hp → Prop} {r : R Bool} (s : Same G H H1) (h : kT G W σ H Q r) : kT G W σ H1 Q r := by
  cases r with
  | ok db => exact fun H' s' => h H' (s.trans s')
  | err c => exact fun H' s' => h H' (s.trans s')
  | bad => exact h
theorem kA.same {σ : Sg} {O : Addr → Prop} {H H1 : Hp} {Q : List V → Hp → Prop} {r : R (List D)} (s : Same G H H1) (h : kA G W σ O H Q r) : kA G W σ O H1 Q r := by
  cases r with
  | ok db => exact fun v H' s' r' => h v H' (s.trans s') r'
  | err c => exact fun H' s' => h H' (s.trans s')
  | bad => exact h
/-- kinds of results, all alike -/
theorem kE_then {σ : Sg} {O : Addr → Prop} {H : Hp} {Q : VK} {r : R DB} {R' : VK} {β : Type} {g : DB → R β} {K : Hp → R β → Prop} (hb : Bnd G O H)
    (he : ∀ c, K H (.err c) → ∀ H', Same G H H' → W (.ref (G.ca c)) none σ H') (hbad : ¬ K H .bad)
    (h : K H (r.bind g)) (k : ∀ d v H1, r = .ok d → Same G H H1 → Bnd G O H1 → Res G H H1 O d v → K H (g d) → R' v H1) : kE G W σ O H R' r := by
  cases r with
  | ok d => exact fun v H1 s r => k d v H1 rfl s (hb.same s) r h
  | err c => exact he c h
  | bad => exact hbad h
theorem kE_bind {σ : Sg} {O : Addr → Prop} {H : Hp} {Q : VK} {r : R DB} {R' : VK} {g : DB → R DB} (hb : Bnd G O H) (h : kE G W σ O H Q (r.bind g))
    (k : ∀ d v H1, r = .ok d → Same G H H1 → Bnd G O H1 → Res G H H1 O d v → kE G W σ O H1 Q (g d) → R' v H1) : kE G W σ O H R' r :=
  kE_then (Q := Q) (K := fun H r => kE G W σ O H Q r) hb (fun _ h => h) (fun h => h) h fun d v H1 e s b r h => k d v H1 e s b r (h.same s)
theorem kE_bindT {σ : Sg} {O : Addr → Prop} {H : Hp} {Q : Bool → Hp → Prop} {r : R DB} {R' : VK} {g : DB → R Bool} (hb : Bnd G O H) (h : kT G W σ H Q (r.bind g))
    (k : ∀ d v H1, r = .ok d → Same G H H1 → Bnd G O H1 → Res G H H1 O d v → kT G W σ H1 Q (g d) → R' v H1) : kE G W σ O H R' r :=
  kE_then (Q := R') (K := fun H r => kT G W σ H Q r) hb (fun _ h => h) (fun h => h) h fun d v H1 e s b r h => k d v H1 e s b r (h.same s)
theorem kE_bindA {σ : Sg} {O : Addr → Prop} {H : Hp} {Q : List V → Hp → Prop} {r : R DB} {R' : VK} {g : DB → R (List D)} (hb : Bnd G O H) (h : kA G W σ O H Q (r.bind g))
    (k : ∀ d v H1, r = .ok d → Same G H H1 → Bnd G O H1 → Res G H H1 O d v → kA G W σ O H1 Q (g d) → R' v H1) : kE G W σ O H R' r :=
  kE_then (Q := R') (K := fun H r => kA G W σ O H Q r) hb (fun _ h => h) (fun h => h) h fun d v H1 e s b r h => k d v H1 e s b r (h.same s)
theorem kT_bind {σ : Sg} {O : Addr → Prop} {H : Hp} {Q : VK} {r : R Bool} {R' : Bool → Hp → Prop} {g : Bool → R DB} (hb : Bnd G O H) (h : kE G W σ O H Q (r.bind g))
    (k : ∀ d H1, r = .ok d → Same G H H1 → Bnd G O H1 → kE G W σ O H1 Q (g d) → R' d H1) : kT G W σ H R' r := by
  cases r with
  | ok d => exact fun H1 s => k d H1 rfl s (hb.same s) (kE.same s h)
  | err c => exact h
  | bad => exact h
theorem kT_bindT {σ : Sg} {O : Addr → Prop} {H : Hp} {Q : Bool → Hp → Prop} {r : R Bool} {R' : Bool → Hp → Prop} {g : Bool → R Bool} (hb : Bnd G O H) (h : kT G W σ H Q (r.bind g))
    (k : ∀ d H1, r = .ok d → Same G H H1 → Bnd G O H1 → kT G W σ H1 Q (g d) → R' d H1) : kT G W σ H R' r := by
  cases r with
  | ok d => exact fun H1 s => k d H1 rfl s (hb.same s) (kT.same s h)
  | err c => exact h
  | bad => exact h
theorem kA_bind {σ : Sg} {O : Addr → Prop} {H : Hp} {Q : VK} {r : R (List D)} {R' : List V → Hp → Prop} {g : List D → R DB} (hb : Bnd G O H) (h : kE G W σ O H Q (r.bind g))
    (k : ∀ d v H1, r = .ok d → Same G H H1 → Bnd G O H1 → DenL G H1 O d v → kE G W σ O H1 Q (g d) → R' v H1) : kA G W σ O H R' r := by
  cases r with
  | ok d => exact fun v H1 s r => k d v H1 rfl s (hb.same s) r (kE.same s h)
  | err c => exact h
  | bad => exact h
theorem kA_bindA {σ : Sg} {O : Addr → Prop} {H : Hp} {Q : List V → Hp → Prop} {r : R (List D)} {R' : List V → Hp → Prop} {g : List D → R (List D)} (hb : Bnd G O H) (h : kA G W σ O H Q (r.bind g))
    (k : ∀ d v H1, r = .ok d → Same G H H1 → Bnd G O H1 → DenL G H1 O d v → kA G W σ O H1 Q (g d) → R' v H1) : kA G W σ O H R' r := by
  cases r with
  | ok d => exact fun v H1 s r => k d v H1 rfl s (hb.same s) r (kA.same s h)
  | err c => exact h
  | bad => exact h

theorem boolR_def (r : R DB) : boolR r = r.bind fun d => match d.1 with | .bl b => .ok b | _ => .bad := rfl
/-- a value that is a bool -/
theorem kE_bool {σ : Sg} {O : Addr → Prop} {H : Hp} {r : R DB} {Q : Bool → Hp → Prop} (hb : Bnd G O H) (h : kT G W σ H Q (boolR r)) : kE G W σ O H (fun v H' => ∃ k, v = .bl k ∧ Q k H') r := by
  rw [boolR_def] at h
  refine kE_bindT hb h fun d v H1 _ s b r h => ?_
  have r' := r.den hb
  obtain ⟨d1, d2⟩ := d
  cases r' with
  | bl k => exact ⟨k, rfl, h H1 (Same.refl _)⟩
  | _ => exact False.elim h
theorem rdT_bool {f : Ev → R DB} {σ : Sg} {H : Hp} {Q : Bool → Hp → Prop} (h : rdT G W (fun ρ => boolR (f ρ)) σ H Q) : rdE G W f σ H (fun v H' => ∃ k, v = .bl k ∧ Q k H') := by
  obtain ⟨ρ, O, hb, hr, h⟩ := h
  exact ⟨ρ, O, hb, hr, kE_bool hb h⟩
/-- two places in a row -/
theorem rdE_bind2 {f g : Ev → R DB} {op : DB → DB → R DB} {σ : Sg} {H : Hp} {Q : VK} {R' : V → V → Hp → Prop}
    (h : rdE G W (fun ρ => (f ρ).bind fun x => (g ρ).bind fun y => op x y) σ H Q)
    (k : ∀ (O : Addr → Prop) x y v w H1, Bnd G O H1 → Den G H1 O x.1 v → Den G H1 O y.1 w → kE G W σ O H1 Q (op x y) → R' v w H1) :
    rdE G W f σ H (fun v H1 => rdE G W g σ H1 fun w H2 => R' v w H2) := by
  obtain ⟨ρ, O, hb, hr, h⟩ := h
  refine ⟨ρ, O, hb, hr, kE_bind hb h fun d v H1 _ s hb1 r h1 => ⟨ρ, O, hb1, hr.same s, kE_bind hb1 h1 fun d2 w H2 _ s2 hb2 r2 h2 => ?_⟩⟩
  exact k O d d2 v w H2 hb2 ((r.den hb).same s2) (r2.den hb1) h2

/-- an operation on two values -/
def OpOk (G : Gb) (X : Cx) (f : Value → Value → Sem Value) (bd : D → D → R DB) : Prop :=
  OpR X f (fun x y H Q => ∃ (O : Addr → Prop) (a b : D), Bnd G O H ∧ Den G H O a x ∧ Den G H O b y ∧
    match bd a b with | .ok db => ∀ v H', Same G H H' → Res G H H' O db v → Q v H' | _ => False)
theorem de_op {bd : D → D → R DB} {op : Operator} {a b : Expr} {f g : Ev → R DB} {pos : Pos} (ho : OpOk G X (binaryOp op) bd) (hn : ∀ x y c, bd x y ≠ .err c)
    (ha : PE X a (rdE G W f)) (hb : PE X b (rdE G W g)) : PE X (.BinOp a op b pos) (rdE G W fun ρ => (f ρ).bind fun x => (g ρ).bind fun y => bd x.1 y.1) := by
  refine PE_imp (pe_op ho ha hb) fun σ H Q h => rdE_bind2 h fun O x y v w H1 b1 d1 d2 k => ⟨O, x.1, y.1, b1, d1, d2, ?_⟩
  cases e : bd x.1 y.1 with
  | ok db => rw [e] at k; exact k
  | err c => exact absurd e (hn _ _ _)
  | bad => rw [e] at k; exact k
/-- a comparison -/
def rCp (G : Gb) (c : Cop) : R2 := fun x y H Q => ∃ (O : Addr → Prop) (a b : D), Bnd G O H ∧ Den G H O a x ∧ Den G H O b y ∧
    match cmpD c a b with | .ok k => Q (.bl k) H | _ => False
def CpOk (G : Gb) (X : Cx) (op : CmpOp) (c : Cop) : Prop := OpR X (compareOp op) (rCp G c)
theorem cmp_noerr {c : Cop} {x y : D} {k : Nat} : cmpD c x y ≠ .err k := by
  unfold cmpD
  split <;> (try unfold okIf) <;> (try unfold ltT) <;> (try unfold inS) <;> (try split) <;> simp
theorem rd_cmp {c : Cop} {f g : Ev → R DB} {σ : Sg} {H : Hp} {Q : VK}
    (h : rdE G W (fun ρ => (f ρ).bind fun x => (g ρ).bind fun y => (cmpD c x.1 y.1).bind fun k => .ok (.bl k, false)) σ H Q) : tOp (rCp G c) (rdE G W f) (rdE G W g) σ H Q :=
  rdE_bind2 h fun O x y v w H1 b1 d1 d2 k => ⟨O, x.1, y.1, b1, d1, d2, by
    cases e : cmpD c x.1 y.1 with
    | ok l => rw [e] at k; exact k _ _ (Same.refl _) (Res.of (.bl l))
    | err c => exact absurd e cmp_noerr
    | bad => rw [e] at k; exact k⟩
theorem de_cmp {op : CmpOp} {c : Cop} {a b : Expr} {f g : Ev → R DB} {pos : Pos} (ho : CpOk G X op c) (hm : behindInMarks op b = false)
    (ha : PE X a (rdE G W f)) (hb : PE X b (rdE G W g)) : PE X (.Compare a [op] [b] pos) (rdE G W fun ρ => (f ρ).bind fun x => (g ρ).bind fun y => (cmpD c x.1 y.1).bind fun k => .ok (.bl k, false)) :=
  PE_imp (pe_cmpR ho ha hb hm) fun σ H Q h => rd_cmp h
theorem dt_cmp {op : CmpOp} {c : Cop} {a b : Expr} {f g : Ev → R DB} {pos : Pos} (ho : CpOk G X op c) (hm : behindInMarks op b = false)
    (ha : PE X a (rdE G W f)) (hb : PE X b (rdE G W g)) : PT X (.Compare a [op] [b] pos) (rdT G W fun ρ => boolR ((f ρ).bind fun x => (g ρ).bind fun y => (cmpD c x.1 y.1).bind fun k => .ok (.bl k, false))) :=
  PT_imp (pt_cmpR ho ha hb hm) fun σ H Q h => rd_cmp (rdT_bool h)
/-- a < b < c -/
theorem rd_chain {c d : Cop} {f g e : Ev → R DB} {σ : Sg} {H : Hp} {Q : VK} (h : rdE G W (fun ρ => (f ρ).bind fun x => (g ρ).bind fun y => (cmpD c x.1 y.1).bind fun k =>
      if k = true then (e ρ).bind fun z => (cmpD d y.1 z.1).bind fun l => .ok (.bl l, false) else .ok (.bl false, false)) σ H Q) :
    tChain (rCp G c) (rCp G d) (rdE G W f) (rdE G W g) (rdE G W e) σ H Q := by
  obtain ⟨ρ, O, hb, hr, h⟩ := h
  refine ⟨ρ, O, hb, hr, kE_bind hb h fun x v H1 _ s hb1 r1 h1 => ⟨ρ, O, hb1, hr.same s, kE_bind hb1 h1 fun y w H2 _ s2 hb2 r2 h2 => ?_⟩⟩
  have d1 := (r1.den hb).same s2
  have d2 := r2.den hb1
  refine ⟨O, x.1, y.1, hb2, d1, d2, ?_⟩
  cases q : cmpD c x.1 y.1 with
  | err c => exact absurd q cmp_noerr
  | bad => rw [q] at h2; exact h2
  | ok k =>
    rw [q] at h2
    simp only [R.bind_ok] at h2
    refine ⟨k, rfl, ?_⟩
    by_cases hk : k = true
    · rw [if_pos hk] at h2 ⊢
      refine ⟨ρ, O, hb2, hr.same (s.trans s2), kE_bind hb2 h2 fun z u H3 _ s3 hb3 r3 h3 => ?_⟩
      refine ⟨O, y.1, z.1, hb3, d2.same s3, r3.den hb2, ?_⟩
      cases q2 : cmpD d y.1 z.1 with
      | ok l => rw [q2] at h3; exact h3 _ _ (Same.refl _) (Res.of (.bl l))
      | err c => exact absurd q2 cmp_noerr
      | bad => rw [q2] at h3; exact h3
    · rw [if_neg hk] at h2 ⊢
      have hk' : k = false := by simpa using hk
      subst hk'
      exact h2 _ _ (Same.refl _) (Res.of (.bl false))
/-- and, or, not, if -/
theorem rd_and {f g : Ev → R DB} {σ : Sg} {H : Hp} {Q : VK} (h : rdE G W (fun ρ => (boolR (f ρ)).bind fun c => if c = true then (boolR (g ρ)).bind fun d => .ok (.bl d, false) else .ok (.bl false, false)) σ H Q) :
    tAndV (rdE G W f) (rdE G W g) σ H Q := by
  obtain ⟨ρ, O, hb, hr, h⟩ := h
  have h1 := kE_bool hb (kT_bind (R' := fun d H1 => if d = true then rdE G W g σ H1 Q else Q (.bl false) H1) hb h fun d H1 e s hb1 k => ?_)
  · exact ⟨ρ, O, hb, hr, h1⟩
  · by_cases hd : d = true
    · rw [if_pos hd] at k ⊢
      refine ⟨ρ, O, hb1, hr.same s, ?_⟩
      have q := kE_bool hb1 (kT_bind (R' := fun d H1 => Q (.bl d) H1) hb1 k fun l H2 _ _ _ k2 => k2 _ _ (Same.refl _) (Res.of (.bl l)))
      cases e2 : g ρ with
      | ok y =>
        rw [e2] at q
        intro v H' s' r'
        obtain ⟨l, rfl, q'⟩ := q v H' s' r'
        exact q'
      | err c => rw [e2] at q; exact q
      | bad => rw [e2] at q; exact q
    · rw [if_neg hd] at k ⊢
      exact k _ _ (Same.refl _) (Res.of (.bl false))
theorem rd_or {f g : Ev → R DB} {σ : Sg} {H : Hp} {Q : VK} (h : rdE G W (fun ρ => (boolR (f ρ)).bind fun c => if c = true then .ok (.bl true, false) else (boolR (g ρ)).bind fun d => .ok (.bl d, false)) σ H Q) :
    tOrV (rdE G W f) (rdE G W g) σ H Q := by
  obtain ⟨ρ, O, hb, hr, h⟩ := h
  have h1 := kE_bool hb (kT_bind (R' := fun d H1 => if d = true then Q (.bl true) H1 else rdE G W g σ H1 Q) hb h fun d H1 e s hb1 k => ?_)
  · exact ⟨ρ, O, hb, hr, h1⟩
  · by_cases hd : d = true
    · rw [if_pos hd] at k ⊢
      exact k _ _ (Same.refl _) (Res.of (.bl true))
    · rw [if_neg hd] at k ⊢
      refine ⟨ρ, O, hb1, hr.same s, ?_⟩
      have q := kE_bool hb1 (kT_bind (R' := fun d H1 => Q (.bl d) H1) hb1 k fun l H2 _ _ _ k2 => k2 _ _ (Same.refl _) (Res.of (.bl l)))
      cases e2 : g ρ with
      | ok y =>
        rw [e2] at q
        intro v H' s' r'
        obtain ⟨l, rfl, q'⟩ := q v H' s' r'
        exact q'
      | err c => rw [e2] at q; exact q
      | bad => rw [e2] at q; exact q
theorem rd_not {f : Ev → R DB} {σ : Sg} {H : Hp} {Q : VK} (h : rdE G W (fun ρ => (boolR (f ρ)).bind fun c => .ok (.bl (!c), false)) σ H Q) : tNotV (rdE G W f) σ H Q := by
  obtain ⟨ρ, O, hb, hr, h⟩ := h
  exact ⟨ρ, O, hb, hr, kE_bool hb (kT_bind (R' := fun d H1 => Q (.bl (!d)) H1) hb h fun d H1 e s hb1 k => k _ _ (Same.refl _) (Res.of (.bl _)))⟩
theorem rd_ifx {c : Ev → R Bool} {f g : Ev → R DB} {σ : Sg} {H : Hp} {Q : VK} (h : rdE G W (fun ρ => (c ρ).bind fun k => if k = true then f ρ else g ρ) σ H Q) : tIf (rdT G W c) (rdE G W f) (rdE G W g) σ H Q := by
  obtain ⟨ρ, O, hb, hr, h⟩ := h
  refine ⟨ρ, O, hb, hr, kT_bind hb h fun d H1 e s hb1 k => ?_⟩
  by_cases hd : d = true
  · rw [if_pos hd] at k ⊢
    exact ⟨ρ, O, hb1, hr.same s, k⟩
  · rw [if_neg hd] at k ⊢
    exact ⟨ρ, O, hb1, hr.same s, k⟩
/-- the same as tests -/
theorem boolR_bind {β : Type} (x : R β) (g : β → R DB) : boolR (x.bind g) = x.bind fun y => boolR (g y) := by cases x <;> rfl
theorem rdt_and {f g : Ev → R Bool} {σ : Sg} {H : Hp} {Q : Bool → Hp → Prop} (h : rdT G W (fun ρ => (f ρ).bind fun c => if c = true then g ρ else .ok false) σ H Q) : tAnd (rdT G W f) (rdT G W g) σ H Q := by
  obtain ⟨ρ, O, hb, hr, h⟩ := h
  refine ⟨ρ, O, hb, hr, kT_bindT hb h fun d H1 e s hb1 k => ?_⟩
  by_cases hd : d = true
  · rw [if_pos hd] at k ⊢
    exact ⟨ρ, O, hb1, hr.same s, k⟩
  · rw [if_neg hd] at k ⊢
    exact k _ (Same.refl _)
theorem rdt_or {f g : Ev → R Bool} {σ : Sg} {H : Hp} {Q : Bool → Hp → Prop} (h : rdT G W (fun ρ => (f ρ).bind fun c => if c = true then .ok true else g ρ) σ H Q) : tOr (rdT G W f) (rdT G W g) σ H Q := by
  obtain ⟨ρ, O, hb, hr, h⟩ := h
  refine ⟨ρ, O, hb, hr, kT_bindT hb h fun d H1 e s hb1 k => ?_⟩
  by_cases hd : d = true
  · rw [if_pos hd] at k ⊢
    exact k _ (Same.refl _)
  · rw [if_neg hd] at k ⊢
    exact ⟨ρ, O, hb1, hr.same s, k⟩
theorem rdt_not {f : Ev → R Bool} {σ : Sg} {H : Hp} {Q : Bool → Hp → Prop} (h : rdT G W (fun ρ => (f ρ).bind fun c => .ok (!c)) σ H Q) : tNot (rdT G W f) σ H Q := by
  obtain ⟨ρ, O, hb, hr, h⟩ := h
  exact ⟨ρ, O, hb, hr, kT_bindT hb h fun d H1 e s hb1 k => k _ (Same.refl _)⟩
theorem bool_and {f g : R DB} : boolR ((boolR f).bind fun c => if c = true then (boolR g).bind fun d => .ok (.bl d, false) else .ok (.bl false, false)) = (boolR f).bind fun c => if c = true then boolR g else .ok false := by
  rw [boolR_bind]
  cases boolR f with
  | ok c => cases c <;> simp [boolR_bind] <;> first | rfl | (cases boolR g <;> rfl)
  | err c => rfl
  | bad => rfl
theorem bool_or {f g : R DB} : boolR ((boolR f).bind fun c => if c = true then .ok (.bl true, false) else (boolR g).bind fun d => .ok (.bl d, false)) = (boolR f).bind fun c => if c = true then .ok true else boolR g := by
  rw [boolR_bind]
  cases boolR f with
  | ok c => cases c <;> simp [boolR_bind] <;> first | rfl | (cases boolR g <;> rfl)
  | err c => rfl
  | bad => rfl
theorem bool_not {f : R DB} : boolR ((boolR f).bind fun c => .ok (.bl (!c), false)) = (boolR f).bind fun c => .ok (!c) := by
  rw [boolR_bind]
  cases boolR f <;> rfl
theorem bool_ifx {c : R Bool} {f g : R DB} : boolR (c.bind fun k => if k = true then f else g) = c.bind fun k => if k = true then boolR f else boolR g := by
  rw [boolR_bind]
  cases c with
  | ok k => cases k <;> rfl
  | err c => rfl
  | bad => rfl
end
end SS

set_option maxRecDepth 100000
set_option maxHeartbeats 4000000
/-! SSW: tuples: times one, summed, sorted -/
namespace SS
open PySem PySem.Spec PyProof.Rows L2
section
open Sem (wp)
open AutoSeq1 (wpAny_loadPart')
theorem tm_one (l : Addr) (items : Array Value) (n : Nat) (dd : Option Addr) (sl : Array (Option Value)) (u : Tok) :
    Meets (Builtin.«tuple.__mul__» ⟨[.ref l, .int 1 u], []⟩) (fun _ R s => s.heap.get? l = some { cls := .type "tuple", dict := dd, data := .seq items n, slots := sl } ∧ R (.ok (.ret (Value.ref l))) s) :=
  .of_wp fun prog w A R s hh => by
    obtain ⟨hp, g, d, tk, os⟩ := s
    obtain ⟨hl, fin⟩ := hh
    have f1 := AutoSeq1.idx_int
    have c0 : (decide ((1 : Int) < -(2 ^ 63)) || decide ((1 : Int) ≥ 2 ^ 63)) = false := by decide
    have c1 : (items.isEmpty || (1 : Int) == 1) = true := by simp
    wp_walk using wpAny_loadPart' hl
    repeat (first
      | (refine wpAny_ite_false (decide_eq_false (by rw [c0]; exact Bool.false_ne_true)) ?_; wp_walk using wpAny_loadPart' hl)
      | (refine wpAny_ite_true (decide_eq_true c1) ?_; wp_walk using wpAny_loadPart' hl))
    exact ⟨_, rfl, fin⟩
theorem op_one {X : Cx} : OpR X (binaryOp .Mult) (fun x y H Q => ∃ l xs, x = .ref l ∧ y = .int 1 ∧ SqT X.K H l xs ∧ Q (.ref l) H) := by
  intro pins s σ H x y v u Q I rx ry h
  obtain ⟨l, xs, rfl, rfl, hT, q⟩ := h
  cases rx
  obtain ⟨t, rfl⟩ := ry
  obtain ⟨its, r, ⟨⟨cls, dd, data, sl⟩, ho, hc, n, hd⟩, hs⟩ := I.tuple hT
  simp only at hc hd
  subst hc hd
  refine wpAny_binaryOp_repeat_ref (T := "tuple") (U := "int") (by decide) ⟨_, ho, rfl⟩ (fun s' => typeIs_int s' 1 t) noFill_tuple_mul F.fills_int_mul F.slot_int_rmul repeat_tuple F.slot_int_index.lookup
    (call_meets F.slot_int_rmul (typeIs_int s 1 t) F.entry_int_rmul (F.args_int_rmul_2 _ _) (int_rmul_tuple 1 t l its.toArray n dd sl)
      ⟨ho, rfl, ⟨_, ho, rfl⟩, call_meets F.slot_tuple_mul ⟨_, ho, rfl⟩ F.entry_tuple_mul (F.args_tuple_mul_2 _ _) (tm_one l its.toArray n dd sl t) ⟨ho, ?_⟩⟩)
  exact ⟨.ref l, H, I, rfl, q⟩
/-- sum of a tuple of ints -/
theorem cr_sumT {X : Cx} (hc : X.calm = true) : CallR X (.builtin "sum") (fun vs H Q => ∃ (a : Addr) (ns : List Int), vs = [V.ref a] ∧ SqT X.K H a (ns.map V.int) ∧ Q (.int ns.sum) H) := by
  intro pins s σ H vs us Q I r h
  obtain ⟨a, ns, rfl, hs, q⟩ := h
  obtain ⟨its, rv, hl, _⟩ := I.tuple hs
  rw [Vals.ref1 r]
  obtain ⟨xs, e⟩ := rv.ints.allInts.items
  have nums := rv.ints.numsOf
  have e2 : numsOf (intItems xs).toList = ns := e ▸ nums
  rw [nums_intItems] at e2
  rw [e] at hl
  refine PySem.W.ktm_sumG (I.ok.hd hc) hl fun h' tk t' hk => ⟨.int _, H, I.kept hk, ⟨t', ?_⟩, q⟩
  rw [preSum_eq, List.take_of_length_le (by simp), e2]
/-- min, max of a tuple of ints -/
theorem mm_tup {prog : Program} {w : World} {A : Around} {E : Value → Shared → Prop} {s : Shared} {t : Addr} {ps : Array (Int × Tok)} {Q : Value → Shared → Prop} (mx : Bool) (hd : A.handled = none) (ht : s.heap.IsTuple t (intItems ps)) (ne : 0 < ps.size)
    (fin : ∀ v h' tk, (intItems ps)[argBest (fun i j => if mx = true then decide (numAt ps i > numAt ps j) else decide (numAt ps i < numAt ps j)) (ps.size - 1)]? = some v → (∀ b ob, s.heap.get? b = some ob → h'.get? b = some ob) → Q v { s with heap := h', toks := tk }) :
    wpAny (model prog w) A (PySem.call (.builtin (if mx = true then "max" else "min")) [.ref t]) Q E s := by
  obtain ⟨ob, ho, _⟩ := id ht
  have lt : t < s.heap.objs.size := Heap.lt_size ho
  have begins : ∀ {A1 : Around} {E1 : Value → Shared → Prop} {Q1 : Value → Shared → Prop}, Q1 (.ref s.heap.objs.size) { s with heap := s.heap.push { cls := .type "tuple_iterator", data := .fields #[.ref t, .int 0 0] } } → wpAny (model prog w) A1 (pyIter (.ref t)) Q1 E1 s := fun q => wpAny_pyIter_tuple ht q
  have st : ({ s with heap := s.heap.push { cls := .type "tuple_iterator", data := .fields #[.ref t, .int 0 0] } } : Shared).heap.IsTupleIter s.heap.objs.size t 0 ∧ (s.heap.push { cls := .type "tuple_iterator", data := .fields #[.ref t, .int 0 0] }).IsTuple t (intItems ps) :=
    ⟨⟨_, Heap.get?_push_size _ rfl, rfl, rfl⟩, ht.at fun o e => Heap.get?_push_of_some _ e⟩
  have fp : ∀ b ∈ [s.heap.objs.size, t], b < ({ s with heap := s.heap.push { cls := .type "tuple_iterator", data := .fields #[.ref t, .int 0 0] } } : Shared).heap.objs.size := fun b hb => by
    show b < (s.heap.push _).objs.size
    rw [Heap.size_push]
    simp only [List.mem_cons, List.not_mem_nil, or_false] at hb
    rcases hb with e | e
    · rw [e]; exact Nat.lt_succ_self _
    · rw [e]; exact Nat.lt_succ_of_lt lt
  have kept : ∀ {h' : Heap}, (∀ b o, b ∉ [s.heap.objs.size] → (s.heap.push { cls := .type "tuple_iterator", data := .fields #[.ref t, .int 0 0] }).get? b = some o → h'.get? b = some o) → ∀ b o, s.heap.get? b = some o → h'.get? b = some o := fun hk b o e =>
    hk b o (fun hm => Nat.lt_irrefl _ ((List.mem_singleton.mp hm) ▸ Heap.lt_size e)) (Heap.get?_push_of_some _ e)
  have n0 : 0 < (intItems ps).size := by simpa [intItems] using ne
  cases mx
  · refine call_min_walk (begins ?_)
    exact ⟨_, _, _, _, _, _, _, rfl, Walks.tuple (A := A.in1) hd _ t (Nat.ne_of_lt lt) (intItems ps), st, fp, n0, CmpOf.ints_lt (numAt ps) (fun _ _ => intItems_at), fun v h' tk hP hk => fin v h' tk (by simpa [intItems] using hP) (kept hk)⟩
  · refine call_max_walk (begins ?_)
    exact ⟨_, _, _, _, _, _, _, rfl, Walks.tuple (A := A.in1) hd _ t (Nat.ne_of_lt lt) (intItems ps), st, fp, n0, CmpOf.ints_gt (numAt ps) (fun _ _ => intItems_at), fun v h' tk hP hk => fin v h' tk (by simpa [intItems] using hP) (kept hk)⟩
theorem cr_mmT {X : Cx} (mx : Bool) (hc : X.calm = true) : CallR X (.builtin (if mx = true then "max" else "min")) (fun vs H Q => ∃ (a : Addr) (ns : List Int), vs = [V.ref a] ∧ SqT X.K H a (ns.map V.int) ∧ 0 < ns.length ∧ ∀ m, m ∈ ns → (∀ y ∈ ns, if mx = true then y ≤ m else m ≤ y) → Q (.int m) H) := by
  intro pins s σ H vs us Q I r h
  obtain ⟨a, ns, rfl, hs, hne, q⟩ := h
  obtain ⟨its, rv, hl, _⟩ := I.tuple hs
  rw [Vals.ref1 r]
  obtain ⟨ps, e⟩ := rv.ints.allInts.items
  have nums := rv.ints.numsOf
  have e2 : numsOf (intItems ps).toList = ns := e ▸ nums
  rw [nums_intItems] at e2
  rw [e] at hl
  subst e2
  have hsz : 0 < ps.size := by simpa using hne
  have mem : ∀ i, i < ps.size → numAt ps i ∈ ps.toList.map (·.1) := fun i hi => by
    rw [numAt_eq]
    exact PySem.getD_mem (by rw [List.length_map, Array.length_toList]; exact hi)
  refine mm_tup mx (I.ok.hd hc) hl hsz fun v h' tk hv hk => ?_
  obtain ⟨t, rfl⟩ := intItems_at hv
  refine ⟨.int _, H, I.kept hk, ⟨t, rfl⟩, q _ ?_ fun y hy => ?_⟩
  · cases mx
    · exact mem _ (by have := (argBest_lt (numAt ps) (ps.size - 1)).1; simp only [Bool.false_eq_true, ↓reduceIte]; omega)
    · exact mem _ (by have := (argBest_gt (numAt ps) (ps.size - 1)).1; simp only [↓reduceIte]; omega)
  · obtain ⟨j, hj, rfl⟩ := mem_getD hy
    rw [List.length_map, Array.length_toList] at hj
    rw [← numAt_eq]
    cases mx
    · have := (argBest_lt (numAt ps) (ps.size - 1)).2 j (by omega)
      simpa using this
    · have := (argBest_gt (numAt ps) (ps.size - 1)).2 j (by omega)
      simpa using this
/-- the items of a tuple, laid as a list at the heap's end -/
theorem co_tup {prog : Program} {w : World} {A : Around} {E : Value → Shared → Prop} {s : Shared} {Q : List Value → Shared → Prop} {t : Addr} {us : List Value} (ht : s.heap.IsTuple t us.toArray) (hz : us.length ≤ sizeLine)
    (fin : ∀ h', s.heap.objs.size ≤ h'.objs.size → (∀ b ob, s.heap.get? b = some ob → h'.get? b = some ob) → Q us { s with heap := h' }) :
    wpAny (model prog w) A (collect (.ref t)) Q E s := by
  obtain ⟨ob, ho, hc, n, hd⟩ := id ht
  unfold collect
  refine wpAny_bind (wpAny_runValue (codeAny_builtin F.entry_proto_collect ?_))
  rw [Around.under_plainId F.plain_proto_collect _]
  show wpAny _ A.in1 (newList [] >>= fun l => again (.builtin "list.__iadd__" ⟨[l, .ref t], []⟩)) _ _ s
  refine wpAny_bind (wpAny_newObj_type (wpAny_pure ⟨plainId_quiet F.plain_list_iadd _, codeAny_builtin F.entry_list_iadd ?_⟩))
  rw [Around.under_plainId F.plain_list_iadd _]
  show wpAny _ A.in1 (Builtin.List.listExtendWith (.ref s.heap.objs.size) (.ref t) (.ref s.heap.objs.size)) _ _ _
  have q1 : (s.heap.push { cls := .type "list", data := .seq ([] : List Value).toArray }).get? s.heap.objs.size = some { cls := .type "list", data := .seq #[] 0 } := Heap.get?_push_size _ rfl
  have q2 := Heap.get?_update_self (Obj.mapSeq (· ++ us.toArray)) q1 rfl
  have last : wpAny (model prog w) A (match Value.ref s.heap.objs.size with
      | Value.ref a => do
        match (← load a).data with
          | Data.seq xs _ => pure xs.toList
          | _ => unsupported "internal:collect"
      | _ => unsupported "internal:collect") Q E { s with heap := (s.heap.push { cls := .type "list", data := .seq ([] : List Value).toArray }).update s.heap.objs.size (Obj.mapSeq (· ++ us.toArray)) } := by
    show wpAny _ A (load s.heap.objs.size >>= _) _ _ _
    refine wpAny_bind (wpAny_load q2 (wpAny_pure ?_))
    have e : ((#[] : Array Value) ++ us.toArray).toList = us := by simp
    show Q ((#[] : Array Value) ++ us.toArray).toList _
    rw [e]
    refine fin _ (by rw [Heap.size_update, Heap.size_push]; omega) fun b ob' hb => ?_
    exact (Heap.get?_update_other _ _ (Nat.ne_of_gt (Heap.lt_size hb))).trans (Heap.get?_push_of_some _ hb)
  refine wpAny_mono (wpAny_extend_seq (hsz := by simpa using hz) (A := A) (R := fun r s' => r = .ok (.ret (.ref s.heap.objs.size)) ∧ s' = { s with heap := (s.heap.push { cls := .type "list", data := .seq ([] : List Value).toArray }).update s.heap.objs.size (Obj.mapSeq (· ++ us.toArray)) })
    (s := { s with heap := s.heap.push { cls := .type "list", data := .seq ([] : List Value).toArray } }) _ t _ 0 (.inr rfl) q1 (Heap.get?_push_of_some _ ho) hc hd ⟨rfl, rfl⟩) (fun fn s' h => ?_) (fun e s' h => ?_)
  · cases fn with
    | done f =>
      obtain ⟨e, rfl⟩ := h
      cases e
      exact last
    | again c' => exact ⟨h.1, codeAny_mono h.2 fun r s'' hr => by obtain ⟨rfl, rfl⟩ := hr; exact last⟩
  · exact absurd h.1 (by simp)
/-- sorted of a tuple of ints -/
theorem so_tup {prog : Program} {w : World} {A : Around} {E : Value → Shared → Prop} {s : Shared} {t : Addr} {us : List Value} {ns : List Int} {Q : Value → Shared → Prop} (ht : s.heap.IsTuple t us.toArray) (hz : us.length ≤ sizeLine) (hI : IntsAre us ns)
    (fin : ∀ (h' : Heap) (a : Addr) (out : List Value) (n : Nat), (∀ b o, s.heap.get? b = some o → h'.get? b = some o) → s.heap.objs.size ≤ a → h'.get? a = some (seqObj "list" out.toArray n) →
      IntsAre out (out.map SrtO.iv) → (out.map SrtO.iv).Perm ns → (out.map SrtO.iv).Pairwise (· ≤ ·) → Q (.ref a) { s with heap := h' }) :
    wpAny (model prog w) A (PySem.call (.builtin "sorted") [.ref t]) Q E s := by
  obtain ⟨ob, ho, hc, n, hd⟩ := id ht
  refine Calls.call_function_entry kind_sorted plain_sorted entry_sorted (args_sorted1 _) ?_
  unfold Builtin.«sorted»
  refine wpAny_bind (m := checkCount "sorted" 1 1 _) (wpAny_pure ?_)
  refine wpAny_bind (co_tup ht hz fun h1 le1 hk => ?_)
  refine wpAny_bind (wpAny_newList ?_ hz)
  have new : (h1.push (seqObj "list" us.toArray 0)).get? h1.objs.size = some (seqObj "list" us.toArray 0) := Heap.get?_push_size _ rfl
  refine wpAny_bind (wpAny_holding (wpAny_call_entry slot_list_sort ⟨_, new, rfl⟩ entry_list_sort (SrtO.list_sort_ord SrtO.swo_int new hz (fun h2 => SrtO.ints_sortable hI h2) fun out hs hb => ⟨_, rfl, ?_⟩) (args_list_sort _)))
  obtain ⟨k1, k2, k3⟩ := SrtO.ints_out hI hs hb
  obtain ⟨ep, he⟩ := PyProof.Rows.sortedHeap_at (vs := us) (out := out.toArray) new
  refine wpAny_pure ⟨_, rfl, fin _ _ out ep (fun b o q => ?_) le1 he k1 k2 k3⟩
  have hb' := Heap.get?_push_of_some (seqObj "list" us.toArray 0) (hk b o q)
  rw [PyProof.Rows.sortedHeap_old (Nat.ne_of_lt (Nat.lt_of_lt_of_le (Heap.lt_size q) le1)) (Heap.lt_size hb')]
  exact hb'
theorem cr_sortT1 {X : Cx} : CallR X (.builtin "sorted") (fun vs H Q => ∃ (a : Addr) (ns : List Int), vs = [V.ref a] ∧ SqT X.K H a (ns.map V.int) ∧
    ∀ (ms : List Int) (p : Addr), ms.Perm ns → ms.Pairwise (· ≤ ·) → H p = none → Q (.ref p) (upd H p (.lst (ms.map V.int)))) := by
  intro pins s σ H vs us Q I r h
  obtain ⟨a, ns, rfl, hs, q⟩ := h
  obtain ⟨its, rv, hl, hz⟩ := I.tuple hs
  rw [Vals.ref1 r]
  refine so_tup hl (by rw [← rv.length]; exact hz) rv.ints fun h' p out ep hk hp he k1 k2 k3 => ?_
  have hlen : ((out.map SrtO.iv).map V.int).length ≤ sizeLine := by
    rw [List.length_map, k2.length_eq]
    rw [List.length_map] at hz
    exact hz
  exact ⟨.ref p, upd H p (.lst ((out.map SrtO.iv).map V.int)), I.laid (t' := s.toks) hk hp ⟨hlen, out, ep, vals_of_ints k1, he⟩, rfl, q _ _ k2 k3 (I.hok.fresh hp)⟩
end
end SS

set_option maxRecDepth 100000
set_option maxHeartbeats 4000000
/-! SSX: sorted(set(a list of ints)) -/
namespace SS
open PySem PySem.Spec PyProof.Rows L2
section
open Sem (wp)
open AutoSeq1 (wpAny_loadPart')
variable {P : Program} {w : World} {A : Around} {E : Value → Shared → Prop} {s : Shared}
def noSet (w : World) : Obj := { cls := .type "set", dict := none, data := .set #[] 0 (.fresh 0 0 (!w.params.followText "set-order")) }
/-- set(x): the new empty set, then its __init__ -/
theorem set_call {x : Value} {Q : Value → Shared → Prop}
    (body : ∀ s1 : Shared, s1 = { s with heap := s.heap.push (noSet w) } → wpAny (model P w) A.in1.in1 (Builtin.«set.__init__» ⟨[.ref s.heap.objs.size, x], []⟩)
      (fun fn s' => match fn with | .done f => wants (fun r s2 => r = .none ∧ Q (.ref s.heap.objs.size) s2) E (.ok f) s' | .again c' => c'.quiet = true ∧ codeAny (model P w) A.in1 c' (wants (fun r s2 => r = .none ∧ Q (.ref s.heap.objs.size) s2) E) s')
      (fun e s' => wants (fun r s2 => r = .none ∧ Q (.ref s.heap.objs.size) s2) E (.error e) s') s1) :
    wpAny (model P w) A (PySem.call (.type "set") [x]) Q E s := by
  have set := F.called_set
  obtain ⟨c0, tl0, mr⟩ := set.mro
  have q1 := set.made
  have q2 := set.sub
  have q3 := set.notType
  have q4 := set.canCreate
  have q5 := F.typeCall_set_1 x
  refine wpAny_call (codeAny_of_tree ?_)
  show wpAny _ _ (callAny (.type "set") ⟨[x], []⟩) _ _ s
  refine wpAny_pure (And.intro (Code.quiet_builtin _ (by decide +kernel)) (codeAny_builtin F.entry_type_call ?_))
  rw [Around.under_plain (weight_type_call_type "set" [x] []) rfl]
  repeat (any_goals (first | assumption | wp_step))
  refine codeAny_mono (code_set_led1 x (E := E) (Q₁ := fun o1 z => o1 = .ref s.heap.objs.size ∧ z = { s with heap := s.heap.push (noSet w) }) (And.intro rfl rfl)) fun ans z got => ?_
  cases ans with
  | error bad => exact got
  | ok fl1 =>
    cases fl1 with
    | ret o1 =>
      obtain ⟨rfl, ez⟩ := got
      have at0 : z.heap.get? s.heap.objs.size = some (noSet w) := by rw [ez]; exact Heap.get?_push_size _ rfl
      have ty : z.TypeIs (.ref s.heap.objs.size) "set" := ⟨_, at0, rfl⟩
      have q6 := set.init.lookup
      have q7 := set.init.bind (.ref s.heap.objs.size)
      repeat (any_goals (first | assumption | wp_step))
      refine codeAny_mono (codeAny_call_builtin set.init.plain F.entry_set_init (check_set_init_1 ty (body z ez))) fun ans2 z2 got2 => ?_
      cases ans2 with
      | error bad => exact got2
      | ok fl2 =>
        cases fl2 with
        | ret r =>
          obtain ⟨rfl, fin⟩ := got2
          repeat (any_goals (first | assumption | wp_step))
        | _ => exact got2.elim
    | _ => exact got.elim
theorem set_li {l : Addr} {us : Array Value} (zs : List Int) {Q : Value → Shared → Prop} (hd : A.handled = none) (ht : s.heap.IsList l us) (hi : IntsAre us.toList zs) (few : zs.length + 1 < scanBound)
    (fin : ∀ (h1 : Heap) (t1 c : Nat), SetR w h1 s.heap.objs.size (fun j => decide (j ∈ zs)) c → c ≤ zs.length → (∀ b ob, s.heap.get? b = some ob → h1.get? b = some ob) → Q (.ref s.heap.objs.size) { s with heap := h1, toks := t1 }) :
    wpAny (model P w) A (PySem.call (.type "set") [.ref l]) Q E s := by
  have lenz : us.size = zs.length := by
    have := IntsAre.length hi
    simpa using this
  refine set_call fun s1 e1 => ?_
  subst e1
  have at0 : (s.heap.push (noSet w)).get? s.heap.objs.size = some (noSet w) := Heap.get?_push_size _ rfl
  obtain ⟨⟨cl, dd, dt, sl⟩, ho, hc, n, hdt⟩ := ht
  replace hc : cl = .type "list" := hc
  replace hdt : dt = .seq us n := hdt
  subst hc hdt
  have at1 : (s.heap.push (noSet w)).get? l = some { cls := .type "list", dict := dd, data := .seq us n, slots := sl } := Heap.get?_push_of_some _ ho
  have il : (s.heap.push (noSet w)).IsList l us := ⟨_, at1, rfl, n, rfl⟩
  have f1 := F.sub_list_set
  have f2 := F.sub_list_frozenset
  have f3 : (Value.type "list" == Value.type "dict") = false := by decide
  unfold Builtin.«set.__init__» noKeywords Builtin.Frozenset.updateFrom
  generalize hp : pyIter = pI
  wp_walk
  subst hp
  refine wpAny_pyIter_list il (wpAny_bind (wpAny_runValue ?_))
  have lt : l < s.heap.objs.size := Heap.lt_size ho
  have sz : (s.heap.push (noSet w)).objs.size = s.heap.objs.size + 1 := Heap.size_push ..
  have ne1 : l ≠ (s.heap.push (noSet w)).objs.size := by rw [sz]; exact Nat.ne_of_lt (Nat.lt_succ_of_lt lt)
  have out : s.heap.objs.size ∉ [(s.heap.push (noSet w)).objs.size, l] := by
    rw [sz]
    simp only [List.mem_cons, List.not_mem_nil, or_false, not_or]
    exact ⟨Nat.ne_of_lt (Nat.lt_succ_self _), Nat.ne_of_gt lt⟩
  have val : ∀ (i : Nat) (v : Value), us[i]? = some v → ∃ k t, zs[i]? = some k ∧ v = .int k t := fun i v hv => by
    have hlt : i < zs.length := by rw [← lenz]; exact (Array.getElem?_eq_some_iff.mp hv).1
    obtain ⟨t, e⟩ := PyProof.Rows.IntsAre.int_at hi i v (by simpa using hv)
    refine ⟨zs[i], t, List.getElem?_eq_getElem hlt, ?_⟩
    rw [e, List.getD_eq_getElem?_getD, List.getElem?_eq_getElem hlt]
    rfl
  refine set_update_ints ((Walks.list (by simp [hd]) _ l ne1 us).toS) s.heap.objs.size out zs lenz few val us.size 0 _ (by omega) (Nat.zero_le _)
    ⟨⟨_, Heap.get?_push_size _ rfl, rfl, rfl⟩, il.push _⟩ ⟨0, Nat.le_refl 0, setR_new_at (Heap.get?_push_of_some _ at0)⟩ ?_
  rintro ⟨h1, g1, d1, t1, o1⟩ c mv hc1 hR
  have e1 : g1 = s.gens := mv.gens
  have e2 : d1 = s.drawn := mv.drawn
  have e3 : o1 = s.os := mv.os
  subst e1 e2 e3
  show wpAny _ _ _ _ _ _
  refine wpAny_pure ?_
  show wpAny _ _ (ret Value.none) _ _ _
  refine wpAny_pure ⟨rfl, fin h1 t1 c hR (by omega) fun b ob e => ?_⟩
  have hb := Heap.lt_size e
  refine mv.heap b ob ?_ (Heap.get?_push_of_some _ (Heap.get?_push_of_some _ e))
  rw [sz]
  simp only [List.mem_cons, List.not_mem_nil, or_false, not_or]
  exact ⟨Nat.ne_of_lt hb, Nat.ne_of_lt (Nat.lt_succ_of_lt hb)⟩
end
/-- set(xs), xs a list of at most 60 ints -/
def rSetL (K : PySem.W.Frag) (w : World) : List V → Hp → VK → Prop := fun vs H Q => ∃ (l : Addr) (zs : List Int), vs = [V.ref l] ∧ SqL K H l (zs.map V.int) ∧ zs.length ≤ 60 ∧
  ∀ (p : Addr) (c : Nat), c ≤ zs.length → H p = none → Q (.ref p) (upd H p (SetO w p (fun j => decide (j ∈ zs)) c))
theorem cr_setL {X : Cx} (hc : X.calm = true) : CallR X (.type "set") (rSetL X.K X.w) := by
  intro pins s σ H vs us Q I r h
  obtain ⟨l, zs, rfl, hq, h60, q⟩ := h
  obtain ⟨its, rv, pl, hz⟩ := I.list hq
  rw [Vals.ref1 r]
  refine set_li zs (I.ok.hd hc) pl.isList (by simpa using rv.ints) (by unfold scanBound; omega) fun h1 t1 c R hc1 hk => ?_
  exact ⟨.ref s.heap.objs.size, upd H s.heap.objs.size (SetO X.w s.heap.objs.size (fun j => decide (j ∈ zs)) c), I.laid (t' := t1) hk (Nat.le_refl _) (setO_new R), rfl, q _ c hc1 (I.hok.fresh (Nat.le_refl _))⟩
theorem insU_mem (x k : Int) : ∀ l : List Int, k ∈ insU x l ↔ k = x ∨ k ∈ l
  | [] => by simp [insU]
  | y :: r => by
    unfold insU
    split
    · simp
    · split
      · rename_i e
        subst e
        simp
      · rw [List.mem_cons, insU_mem x k r, List.mem_cons]
        constructor
        · rintro (h | h | h) <;> simp [h]
        · rintro (h | h | h) <;> simp [h]
theorem sortU_mem (k : Int) : ∀ l : List Int, k ∈ sortU l ↔ k ∈ l
  | [] => Iff.rfl
  | x :: r => by
    show k ∈ insU x (sortU r) ↔ _
    rw [insU_mem, sortU_mem k r, List.mem_cons]
theorem insU_sorted (x : Int) : ∀ {l : List Int}, l.Pairwise (· < ·) → (insU x l).Pairwise (· < ·)
  | [], _ => List.pairwise_singleton _ _
  | y :: r, h => by
    have h' := List.pairwise_cons.mp h
    unfold insU
    split
    · rename_i c
      refine List.pairwise_cons.mpr ⟨fun z hz => ?_, h⟩
      rcases List.mem_cons.mp hz with rfl | hz
      · exact c
      · have := h'.1 z hz; omega
    · split
      · exact h
      · refine List.pairwise_cons.mpr ⟨fun z hz => ?_, insU_sorted x h'.2⟩
        rcases (insU_mem x z r).mp hz with rfl | hz
        · omega
        · exact h'.1 z hz
theorem sortU_sorted : ∀ l : List Int, (sortU l).Pairwise (· < ·)
  | [] => List.Pairwise.nil
  | x :: r => insU_sorted x (sortU_sorted r)
theorem sortU_uniq {ms ns : List Int} (h : ms.Pairwise (· < ·)) (hm : ∀ k, k ∈ ms ↔ k ∈ ns) : ms = sortU ns := by
  have nd : ∀ {l : List Int}, l.Pairwise (· < ·) → l.Nodup := fun h => h.imp fun c e => by omega
  refine List.Perm.eq_of_pairwise (fun a b _ _ h1 h2 => by omega) h (sortU_sorted ns) ?_
  exact (List.perm_ext_iff_of_nodup (nd h) (nd (sortU_sorted ns))).mpr fun k => (hm k).trans (sortU_mem k ns).symm
end SS

set_option maxRecDepth 100000
set_option maxHeartbeats 4000000
/-! SSV: min(a list of tuples of ints) -/
namespace SS
open PySem PySem.Spec PyProof.Rows L2
section
variable {P : Program} {w : World} {A : Around} {R : Result → Shared → Prop} {I : Addr} {fp wr : List Addr} {n : Nat} {Pv : Nat → Value → Prop} {St : Nat → Heap → Prop}
/-- a comparison that leans on what lies in the heap -/
def CmpH (P : Program) (w : World) (A : Around) (T : Heap → Prop) (op : CmpOp) (Pv : Nat → Value → Prop) (bt : Nat → Nat → Bool) : Prop :=
  ∀ i j vi vj (s : Shared) (Q : Value → Shared → Prop) (E : Value → Shared → Prop), T s.heap → Pv i vi → Pv j vj → Q (.bool (bt i j)) s → wpAny (model P w) A (richCompare op vi vj) Q E s
theorem min_lp (Wk : Walks P w A.in1 I fp wr n Pv St) (bt : Nat → Nat → Bool) {T : Heap → Prop} (hc : CmpH P w A.in1 T .Lt Pv bt) (S : Addr) (hS0 : S ∉ fp)
    (hT : ∀ h h', T h → (∀ b o, b ∉ wr → b ≠ S → h.get? b = some o → h'.get? b = some o) → T h') :
    ∀ (k j : Nat) (s : Shared) (vb : Value) (c : Nat), n - (j + 1) = k → j + 1 ≤ n → T s.heap → St (j + 1) s.heap → Pv (argBest bt j) vb →
    s.heap.get? S = some { cls := .type "list", dict := none, data := .seq #[vb, vb] c, slots := #[] } →
    (∀ v h' tk, Pv (argBest bt (n - 1)) v → (∀ b o, b ∉ wr → b ≠ S → s.heap.get? b = some o → h'.get? b = some o) → R (.ok (.ret v)) { s with heap := h', toks := tk }) →
    codeAny (model P w) A (.builtin "min.loop" ⟨[.ref I, .none, .ref S], []⟩) R s := by
  have hW : S ∉ wr := fun z => hS0 (Wk.sub _ z)
  have nm : (toString "min" ++ toString ".loop" : String) = "min.loop" := by decide
  intro k
  induction k with
  | zero =>
    intro j s vb c hk hj t0 st pb gS hR
    have hin : j + 1 = n := by omega
    refine codeAny_builtin F.entry_min_loop ?_
    rw [Around.under_plainId F.plain_min_loop _]
    show wpAny _ A.in1 (seqItems? (.ref S) >>= _) _ _ s
    refine wpAny_bind (wpAny_seqItems gS rfl ?_)
    show wpAny _ A.in1 (tryCatch (pyNext (.ref I)) _ >>= _) _ _ s
    refine wpAny_bind (wpAny_tryCatch (Wk.done s _ _ (hin ▸ st) fun h' tk kp => ?_))
    show wpAny _ A.in1 (updateSeq S (fun _ => #[]) >>= _) _ _ _
    refine wpAny_bind ?_
    refine wpAny_updateSeq (kp S _ hW gS) rfl (wpAny_bind (wpAny_letGo (wpAny_pure ?_)))
    exact hR vb _ tk (by rw [← hin]; exact pb) fun b o z1 z2 e => (Heap.get?_update_other _ _ (Ne.symm z2)).trans (kp b o z1 e)
  | succ k ih =>
    intro j s vb c hk hj t0 st pb gS hR
    have lt : j + 1 < n := by omega
    refine codeAny_builtin F.entry_min_loop ?_
    rw [Around.under_plainId F.plain_min_loop _]
    show wpAny _ A.in1 (seqItems? (.ref S) >>= _) _ _ s
    refine wpAny_bind (wpAny_seqItems gS rfl ?_)
    show wpAny _ A.in1 (tryCatch (pyNext (.ref I)) _ >>= _) _ _ s
    refine wpAny_bind (wpAny_tryCatch (Wk.item (j + 1) s _ _ lt st fun v h' tk hP st' kp => ?_))
    have gS' := kp S _ hW gS
    have t1 : T h' := hT _ _ t0 fun b o z1 _ e => kp b o z1 e
    show wpAny _ A.in1 (tryCatch (holding [v, v] (richCompare .Lt v vb >>= _)) _ >>= _) _ _ _
    refine wpAny_bind (wpAny_tryCatch (wpAny_holding (wpAny_bind (hc (j + 1) (argBest bt j) v vb _ _ _ t1 hP pb ?_))))
    refine wpAny_bind (wpAny_holding (wpAny_truthy_bool ?_))
    refine wpAny_bind (wpAny_letGo (wpAny_pure ?_))
    cases hb : bt (j + 1) (argBest bt j) with
    | true =>
      simp only [if_true]
      refine wpAny_bind ?_
      refine wpAny_updateSeq gS' rfl (wpAny_bind (wpAny_letGo ?_))
      rw [nm]
      refine wpAny_pure ⟨plainId_quiet F.plain_min_loop _, ih (j + 1) _ v _ (by omega) lt (hT _ _ t1 fun b o _ z2 e => (Heap.get?_update_other _ _ (Ne.symm z2)).trans e) (Wk.frame _ _ _ st' fun b z o e => ?_) (by simp only [argBest, hb, if_true]; exact hP) (Heap.get?_update_self _ gS' rfl)
        fun v' h'' tk'' hP' kp' => ?_⟩
      · exact (Heap.get?_update_other _ _ (fun y : S = b => hS0 (by rw [y]; exact z))).trans e
      · exact hR v' h'' tk'' hP' fun b o z1 z2 e => kp' b o z1 z2 ((Heap.get?_update_other _ _ (Ne.symm z2)).trans (kp b o z1 e))
    | false =>
      simp only [Bool.false_eq_true, if_false]
      refine wpAny_bind (wpAny_letGo ?_)
      rw [nm]
      refine wpAny_pure ⟨plainId_quiet F.plain_min_loop _, ih (j + 1) _ vb c (by omega) lt t1 st' (by simp only [argBest, hb, Bool.false_eq_true, if_false]; exact pb) gS' fun v' h'' tk'' hP' kp' => ?_⟩
      exact hR v' h'' tk'' hP' fun b o z1 z2 e => kp' b o z1 z2 (kp b o z1 e)
theorem min_lp0 (Wk : Walks P w A.in1 I fp wr n Pv St) (bt : Nat → Nat → Bool) {T : Heap → Prop} (hc : CmpH P w A.in1 T .Lt Pv bt) (S : Addr) (hS0 : S ∉ fp)
    (hT : ∀ h h', T h → (∀ b o, b ∉ wr → b ≠ S → h.get? b = some o → h'.get? b = some o) → T h') (hn : 0 < n) {s : Shared} {c : Nat} (t0 : T s.heap) (st : St 0 s.heap)
    (gS : s.heap.get? S = some { cls := .type "list", dict := none, data := .seq #[] c, slots := #[] })
    (hR : ∀ v h' tk, Pv (argBest bt (n - 1)) v → (∀ b o, b ∉ wr → b ≠ S → s.heap.get? b = some o → h'.get? b = some o) → R (.ok (.ret v)) { s with heap := h', toks := tk }) :
    codeAny (model P w) A (.builtin "min.loop" ⟨[.ref I, .none, .ref S], []⟩) R s := by
  have hW : S ∉ wr := fun z => hS0 (Wk.sub _ z)
  have nm : (toString "min" ++ toString ".loop" : String) = "min.loop" := by decide
  refine codeAny_builtin F.entry_min_loop ?_
  rw [Around.under_plainId F.plain_min_loop _]
  show wpAny _ A.in1 (seqItems? (.ref S) >>= _) _ _ s
  refine wpAny_bind (wpAny_seqItems gS rfl ?_)
  show wpAny _ A.in1 (tryCatch (pyNext (.ref I)) _ >>= _) _ _ s
  refine wpAny_bind (wpAny_tryCatch (Wk.item 0 s _ _ hn st fun v h' tk hP st' kp => ?_))
  have gS' := kp S _ hW gS
  have t1 : T h' := hT _ _ t0 fun b o z1 _ e => kp b o z1 e
  show wpAny _ A.in1 (updateSeq S (fun _ => #[v, v]) >>= _) _ _ _
  refine wpAny_bind ?_
  refine wpAny_updateSeq gS' rfl ?_
  rw [nm]
  refine wpAny_pure ⟨plainId_quiet F.plain_min_loop _, min_lp Wk bt hc S hS0 hT _ 0 _ v _ rfl hn (hT _ _ t1 fun b o _ z2 e => (Heap.get?_update_other _ _ (Ne.symm z2)).trans e) (Wk.frame _ _ _ st' fun b z o e => ?_) hP (Heap.get?_update_self _ gS' rfl) fun v' h'' tk'' hP' kp' => ?_⟩
  · exact (Heap.get?_update_other _ _ (fun y : S = b => hS0 (by rw [y]; exact z))).trans e
  · exact hR v' h'' tk'' hP' fun b o z1 z2 e => kp' b o z1 z2 ((Heap.get?_update_other _ _ (Ne.symm z2)).trans (kp b o z1 e))
end
section
variable {P : Program} {w : World} {A : Around} {E : Value → Shared → Prop} {s : Shared}
theorem min_tl {l : Addr} {its : Array Value} {bt : Nat → Nat → Bool} {Q : Value → Shared → Prop} (hh : A.handled = none) (hl : s.heap.IsList l its) (hn : 0 < its.size)
    (hc : CmpH P w A.in1 (fun h => ∀ b o, s.heap.get? b = some o → h.get? b = some o) .Lt (fun i v => its[i]? = some v) bt)
    (h : ∀ v h' tk, its[argBest bt (its.size - 1)]? = some v → (∀ b o, s.heap.get? b = some o → h'.get? b = some o) → Q v { s with heap := h', toks := tk }) :
    wpAny (model P w) A (PySem.call (.builtin "min") [.ref l]) Q E s := by
  have nm : (toString "min" ++ toString ".loop" : String) = "min.loop" := by decide
  refine call_function_tree F.kind_min F.plain_min F.entry_min (F.args_min1 _) ?_
  show wpAny _ A.in1 (Builtin.Builtins.bindParams "min" ["key", "default"] 0 ⟨[], []⟩ >>= _) _ _ s
  refine wpAny_bind (wpAny_of_eq (show Builtin.Builtins.bindParams "min" ["key", "default"] 0 ⟨[], []⟩ = pure [none, none] from rfl) ?_)
  refine wpAny_bind (wpAny_pure ?_)
  refine wpAny_bind (iter_anyList hl fun s2 e st hfp hne => ?_)
  refine wpAny_bind (wpAny_newObj_type ?_)
  rw [nm]
  have hsz : s2.heap.objs.size = s.heap.objs.size + 1 := by rw [e]; exact Heap.size_push _ _
  have hS0 : s2.heap.objs.size ∉ [s.heap.objs.size, l] := fun hm => Nat.lt_irrefl _ (hfp _ hm)
  have W := Walks.list (prog := P) (w := w) (A := A.in1) hh s.heap.objs.size l hne its
  have old : ∀ b o, s.heap.get? b = some o → s2.heap.get? b = some o := fun b o q => by rw [e]; exact Heap.get?_push_of_some _ q
  refine wpAny_pure ⟨plainId_quiet F.plain_min_loop _, min_lp0 W bt hc s2.heap.objs.size hS0 (fun h1 h2 t k b o q => ?_) hn (fun b o q => Heap.get?_push_of_some _ (old b o q)) (W.frame _ _ _ st fun b _ o e => Heap.get?_push_of_some _ e) (Heap.get?_push_size _ rfl) fun v h' tk hP hk => ?_⟩
  · have lt := Heap.lt_size q
    exact k b o (by simp only [List.mem_singleton]; exact Nat.ne_of_lt lt) (Nat.ne_of_lt (Nat.lt_trans lt (by rw [hsz]; exact Nat.lt_succ_self _))) (t b o q)
  · have : Q v { s with heap := h', toks := tk } := h v h' tk hP fun b o q => by
      have lt := Heap.lt_size q
      exact hk b o (by simp only [List.mem_singleton]; exact Nat.ne_of_lt lt) (Nat.ne_of_lt (Nat.lt_trans lt (by rw [hsz]; exact Nat.lt_succ_self _))) (Heap.get?_push_of_some _ (old b o q))
    rw [e]
    exact this
end
section
variable {X : Cx}
def rMinQ (K : PySem.W.Frag) : List V → Hp → VK → Prop := fun vs H Q => ∃ (a : Addr) (xs : List V) (k : Nat → List Int), vs = [V.ref a] ∧ SqL K H a xs ∧ 0 < xs.length ∧
  (∀ i x, xs[i]? = some x → ∃ t, x = .ref t ∧ SqT K H t ((k i).map V.int)) ∧ ∀ v, xs[argBest (fun i j => HT.lexLt (k i) (k j)) (xs.length - 1)]? = some v → Q v H
theorem vals_at : ∀ {xs : List V} {us : List Value} {i : Nat} {u : Value}, Vals xs us → us[i]? = some u → ∃ x, xs[i]? = some x ∧ RelV x u
  | _, _, i, u, .nil, h => by simp at h
  | _, _, 0, u, .cons r t, h => by simp at h; subst h; exact ⟨_, rfl, r⟩
  | _, _, i + 1, u, .cons r t, h => by
    obtain ⟨x, h1, h2⟩ := vals_at (i := i) t (by simpa using h)
    exact ⟨x, by simpa using h1, h2⟩
theorem cr_minQ (hu : X.A.units + 1 < cLine) (hc : X.calm = true) : CallR X (.builtin "min") (rMinQ X.K) := by
  intro pins s σ H vs us Q I r h
  obtain ⟨a, xs, k, rfl, hs, hn, hx, q⟩ := h
  obtain ⟨its, rv, hl, _⟩ := I.list hs
  rw [Vals.ref1 r]
  have len := rv.length
  refine min_tl (bt := fun i j => HT.lexLt (k i) (k j)) (I.ok.hd hc) hl.isList (by simp; omega) (fun i j vi vj s2 Q2 E2 ht hi hj hQ => ?_) fun v h' tk hv hk => ?_
  · obtain ⟨x, x1, x2⟩ := vals_at rv (by simpa using hi)
    obtain ⟨y, y1, y2⟩ := vals_at rv (by simpa using hj)
    obtain ⟨ta, rfl, p1⟩ := hx i x x1
    obtain ⟨tb, rfl, p2⟩ := hx j y y1
    cases x2
    cases y2
    obtain ⟨i1, r1, q1, _⟩ := I.tuple p1
    obtain ⟨i2, r2, q2, _⟩ := I.tuple p2
    exact (HT.lt_tupInts (A := X.A.in1) (E := E2) (s := s2) (q1.keeps ht) (q2.keeps ht) (intsAre_of r1) (intsAre_of r2) (by show X.A.units + 1 < cLine; exact hu) hQ)
  · rw [List.size_toArray, ← len] at hv
    obtain ⟨x, x1, x2⟩ := vals_at rv (by simpa using hv)
    exact ⟨x, H, I.kept hk, x2, q x x1⟩
end

/-! ### t > u -/
theorem lexAt_lex {ns ms : List Int} : ∀ (k i : Nat), i + k = min ns.length ms.length →
    Ob.lexAt (fun j => decide (ns.getD j 0 = ms.getD j 0)) (fun j => decide (ns.getD j 0 > ms.getD j 0)) (decide (ns.length > ms.length)) i k = HT.lexLt (ms.drop i) (ns.drop i)
  | 0, i, h => by
    rw [Ob.lexAt_zero]
    by_cases c : ns.length > ms.length
    · have e1 : ms.drop i = [] := List.drop_of_length_le (by omega)
      have e2 : i < ns.length := by omega
      rw [decide_eq_true c, e1, List.drop_eq_getElem_cons e2]
      rfl
    · have e1 : ns.drop i = [] := List.drop_of_length_le (by omega)
      rw [decide_eq_false c, e1]
      cases ms.drop i <;> rfl
  | k + 1, i, h => by
    have l1 : i < ns.length := by omega
    have l2 : i < ms.length := by omega
    have ih := lexAt_lex (ns := ns) (ms := ms) k (i + 1) (by omega)
    have d1 : ns.getD i 0 = ns[i] := by simp [l1]
    have d2 : ms.getD i 0 = ms[i] := by simp [l2]
    rw [Ob.lexAt_succ, List.drop_eq_getElem_cons l1, List.drop_eq_getElem_cons l2, HT.lexLt_cons, ih]
    simp only [d1, d2, decide_eq_true_eq]
    by_cases c : ns[i] = ms[i]
    · rw [if_pos c, if_pos c.symm]
    · rw [if_neg c, if_neg (fun z => c z.symm)]
def rGtT (K : PySem.W.Frag) : R2 := fun x y H Q => ∃ (a b : Addr) (ns ms : List Int), x = .ref a ∧ y = .ref b ∧ SqT K H a (ns.map V.int) ∧ SqT K H b (ms.map V.int) ∧ Q (.bl (HT.lexLt ms ns)) H
theorem op_gtT {X : Cx} (hu : X.A.units < cLine) : OpR X (compareOp .Gt) (rGtT X.K) := by
  intro pins s σ H x y v u Q I rx ry h
  obtain ⟨a, b, ns, ms, rfl, rfl, ha, hb, q⟩ := h
  cases rx
  cases ry
  obtain ⟨its, r1, p1, _⟩ := I.tuple ha
  obtain ⟨its2, r2, p2, _⟩ := I.tuple hb
  have i1 : IntsAre its ns := Vals.ints r1
  have i2 : IntsAre its2 ms := Vals.ints r2
  have e1 : its.toArray.size = ns.length := by rw [List.size_toArray]; exact i1.length
  have e2 : its2.toArray.size = ms.length := by rw [List.size_toArray]; exact i2.length
  have at1 : ∀ j (h1 : j < its.toArray.size), ∃ t, its.toArray[j] = .int (ns.getD j 0) t := fun j h1 => PyProof.Rows.IntsAre.int_at i1 _ _ (by simp at h1; simp [h1])
  have at2 : ∀ j (h1 : j < its2.toArray.size), ∃ t, its2.toArray[j] = .int (ms.getD j 0) t := fun j h1 => PyProof.Rows.IntsAre.int_at i2 _ _ (by simp at h1; simp [h1])
  have R := Ob.RcOp.tuples_gt (A := X.A) (s := s) (e := fun j => decide (ns.getD j 0 = ms.getD j 0)) (r := fun j => decide (ns.getD j 0 > ms.getD j 0)) p1 p2 hu (fun j h1 h2 => by
    obtain ⟨t, et⟩ := at1 j h1
    obtain ⟨t', et'⟩ := at2 j h2
    rw [et, et']
    have z : (ns.getD j 0 == ms.getD j 0) = decide (ns.getD j 0 = ms.getD j 0) := by
      by_cases q : ns.getD j 0 = ms.getD j 0
      · rw [decide_eq_true q]; exact beq_iff_eq.mpr q
      · rw [decide_eq_false q]; exact beq_eq_false_iff_ne.mpr q
    rw [← z]
    exact SeqAt.EqAt.int_int _ _ _ _) (fun j h1 h2 _ => by
    obtain ⟨t, et⟩ := at1 j h1
    obtain ⟨t', et'⟩ := at2 j h2
    rw [et, et']
    exact fun _ _ _ _ h => PyProof.Rows.gt_int h)
  rw [e1, e2, lexAt_lex _ 0 (by omega), List.drop_zero, List.drop_zero] at R
  have z : wpAny (model X.prog X.w) X.A (compareOp .Gt (.ref a) (.ref b)) (EP X pins σ Q) X.xe s := R X.prog X.w X.xe (EP X pins σ Q) ⟨.bl _, H, I, rfl, q⟩
  exact z

/-! ### t[::-1] -/
section
variable {P : Program} {w : World} {A : Around} {E : Value → Shared → Prop} {s : Shared}
theorem adj_rev (n : Nat) : Builtin.Slice.sliceAdjust none none (-1) (n : Int) = ((n : Int) - 1, -1) := by
  unfold Builtin.Slice.sliceAdjust
  simp
theorem plc_rev (n : Nat) : Builtin.Slice.slicePlaces ((n : Int) - 1) (-1) (-1) = n := by
  unfold Builtin.Slice.slicePlaces
  simp
  split <;> omega
theorem fm_congr {α β : Type} {f g : α → Option β} : ∀ {l : List α}, (∀ x ∈ l, f x = g x) → l.filterMap f = l.filterMap g
  | [], _ => rfl
  | x :: r, h => by
    rw [List.filterMap_cons, List.filterMap_cons, h x List.mem_cons_self, fm_congr fun y hy => h y (List.mem_cons_of_mem _ hy)]
theorem pick_rev (xs : Array Value) : ((List.range xs.size).filterMap fun (m : Nat) => xs[(((xs.size : Int) - 1) + (m : Int) * (-1)).toNat]?).toArray = xs.toList.reverse.toArray := by
  have e : (List.range xs.size).filterMap (fun (m : Nat) => xs[(((xs.size : Int) - 1) + (m : Int) * (-1)).toNat]?) = ((List.range xs.size).map fun k => xs.size - 1 - k).filterMap (xs[·]?) := by
    rw [List.filterMap_map]
    refine fm_congr fun m hm => ?_
    have hm := List.mem_range.mp hm
    have z : (((xs.size : Int) - 1) + (m : Int) * (-1)).toNat = xs.size - 1 - m := by omega
    show xs[(((xs.size : Int) - 1) + (m : Int) * (-1)).toNat]? = xs[xs.size - 1 - m]?
    rw [z]
  rw [e, PySem.W.krv_range, List.filterMap_reverse, PySem.W.krv_all]
theorem appl_rev {sl : Addr} {vs : Value} {n : Nat} {Q : Int × Int × Nat → Shared → Prop} (hs : s.heap.IsSliceOf sl .none .none vs) (ps : IsPart vs (some (-1)))
    (h : Q (((n : Int) - 1), -1, n) s) : wpAny (model P w) A (Builtin.Slice.sliceApplied (.ref sl) (pure (n : Int))) Q E s := by
  obtain ⟨os, hos, hcs, hds⟩ := id hs
  unfold Builtin.Slice.sliceApplied Builtin.Slice.sliceFields
  refine wpAny_bind (wpAny_bind (wpAny_field hos hds (x := .none) rfl (wpAny_bind (wpAny_field hos hds (x := .none) rfl (wpAny_bind (wpAny_field hos hds (x := vs) rfl (wpAny_pure ?_)))))))
  refine wpAny_bind (HT.slicePart_ ps ?_)
  show wpAny _ _ (if ((-1 : Int) == 0) = true then _ else _) _ _ s
  rw [if_neg (by decide)]
  refine wpAny_bind (slicePart_none (wpAny_bind (slicePart_none (wpAny_bind (wpAny_pure ?_)))))
  show wpAny _ _ (match Builtin.Slice.sliceAdjust none none (-1) (n : Int) with | (lo, hi) => pure (lo, (-1 : Int), Builtin.Slice.slicePlaces lo hi (-1))) _ _ s
  rw [adj_rev n]
  show wpAny _ _ (pure (((n : Int) - 1), (-1 : Int), Builtin.Slice.slicePlaces ((n : Int) - 1) (-1) (-1))) _ _ s
  rw [plc_rev]
  exact wpAny_pure h
theorem get_rev {t sl : Addr} {items : Array Value} {vs : Value} {Q : Value → Shared → Prop} (ht : IsTup s.heap t items) (hs : s.heap.IsSliceOf sl .none .none vs) (ps : IsPart vs (some (-1)))
    (h : Q (.ref s.heap.objs.size) { s with heap := s.heap.push { cls := .type "tuple", data := .seq items.toList.reverse.toArray } })
    (hsz : items.size ≤ sizeLine) : wpAny (model P w) A (getItem (.ref t) (.ref sl)) Q E s := by
  have hz : sizeOk (.seq items.toList.reverse.toArray) := by
    show items.toList.reverse.toArray.size ≤ sizeLine
    rw [List.size_toArray, List.length_reverse, Array.length_toList]
    exact hsz
  obtain ⟨os, hos, hcs, hds⟩ := id hs
  have hTs : s.TypeIs (.ref sl) "slice" := ⟨os, hos, hcs⟩
  unfold getItem
  try with_reducible refine wpAny_holding ?_
  first | refine wpAny_bind (wpAny_pure ?_) | skip
  refine wpAny_bind (wpAny_sequenceKey ht.typeIs (by decide) ?_)
  refine wpAny_bind (wpAny_callSpecial?_slot (name := Str.ofString "__getitem__") ht.typeIs PyProof.Rows.slot_tuple_getitem
    (wpAny_call_entry PyProof.Rows.slot_tuple_getitem ht.typeIs entry_tuple_getitem ?_ (args_tuple_getitem _ _)))
  show wpAny _ _ (Builtin.Tuple.tupleItemsOf (.ref t) >>= _) _ _ s
  refine wpAny_bind (tupleItemsOf_ ht ?_)
  refine wpAny_bind (wpAny_typeOf hTs ?_)
  rw [if_pos (by decide)]
  refine wpAny_bind (appl_rev hs ps ?_)
  show wpAny _ _ (if (((items.size : Int) - 1) == 0 && (-1 : Int) == 1 && items.size == items.size) = true then _ else _) _ _ s
  rw [if_neg (by simp), pick_rev]
  first
    | exact wpAny_bind (m := Builtin.Tuple.tupleExact _) (wpAny_newObj_type (wpAny_pure ⟨_, rfl, wpAny_pure h⟩) hz)
    | exact wpAny_bind (m := Builtin.Tuple.tupleExact _) (wpAny_newObj_type (wpAny_bind (wpAny_pure (wpAny_pure ⟨_, rfl, wpAny_pure h⟩))) hz)
    | exact wpAny_bind (wpAny_bind (m := Builtin.Tuple.tupleExact _) (wpAny_newObj_type (wpAny_pure (wpAny_pure ⟨_, rfl, wpAny_pure h⟩)) hz))
    | exact wpAny_bind (wpAny_bind (m := Builtin.Tuple.tupleExact _) (wpAny_newObj_type (wpAny_pure ⟨_, rfl, wpAny_pure h⟩) hz))
end
section
variable {X : Cx}
def tRevT (K : PySem.W.Frag) (te : TE) : TE := fun σ H Q => te σ H fun x H1 => ∃ a xs, x = .ref a ∧ SqT K H1 a xs ∧ ∃ b, NewT b xs.reverse Q H1
theorem pe_revT {e : Expr} {te : TE} {k : Nat} {p1 p2 p3 pos : Pos} (he : PE X e te) : PE X (.Subscript e (.Slice none none (some (.UnaryOp .USub (.Constant (.int 1) k p1) p2)) p3) pos) (tRevT X.K te) := by
  refine ⟨fun pins s σ H Q I h => ?_⟩
  refine Subscript_ (thn (he.run pins s σ H _ I h) fun v s1 ⟨x, H1, I1, r1, q1⟩ => ?_)
  obtain ⟨a, xs, ex, hx, bb, q⟩ := q1
  subst ex
  cases r1
  have hst : PO X (some (.UnaryOp .USub (.Constant (.int 1) k p1) p2)) (tPart (tUn (rU fun i => .int (-i)) (tC (.int 1)))) := po_some (pe_un un_neg pe_int)
  refine wpAny_Slice (thn (po_none.run pins s1 σ H1 (fun o H2 => o = none ∧ H2 = H1) I1 ⟨rfl, rfl⟩) fun vl s2 ⟨l, H2, I2, pl, el, e2⟩ => ?_)
  subst el e2
  refine thn (po_none.run pins s2 σ H2 (fun o H3 => o = none ∧ H3 = H2) I2 ⟨rfl, rfl⟩) fun vu s3 ⟨u, H3, I3, pu, eu, e3⟩ => ?_
  subst eu e3
  refine thn (hst.run pins s3 σ H3 (fun o H4 => o = some (-1) ∧ H4 = H3) I3 ⟨1, rfl, -1, rfl, rfl, rfl⟩) fun vs s4 ⟨o, H4, I4, ps, eo, e4⟩ => ?_
  subst eo e4
  cases pl
  cases pu
  have I5 : Inv X pins σ H4 { s4 with heap := s4.heap.push { cls := .type "slice", data := .fields #[.none, .none, vs] } } := I4.kept (t' := s4.toks) fun b ob q => Heap.get?_push_of_some _ q
  obtain ⟨its, r, ht, hz⟩ := I5.tuple hx
  have hlen := r.length
  show wpAny (model X.prog X.w) X.A (subscriptTail e (.Slice none none (some (.UnaryOp .USub (.Constant (.int 1) k p1) p2)) p3) (.ref a) (.ref s4.heap.objs.size)) (EP X pins σ Q) X.xe { s4 with heap := s4.heap.push { cls := .type "slice", data := .fields #[.none, .none, vs] } }
  refine tail_any (ops := [.ref a, .ref s4.heap.objs.size]) ht.typeIs (PyProof.Rows.slot_tuple_getitem.lookup) ?_ (by with_unfolding_all rfl)
  refine get_rev ht (Heap.IsSliceOf.new _ .none .none vs) ps ?_ (by rw [List.size_toArray]; omega)
  exact new_done I5 r.reverse (by rw [List.length_reverse]; exact hz) q
end
end SS

set_option maxRecDepth 100000
set_option maxHeartbeats 4000000
/-! SSD: operators, subscripts, builtins -/
namespace SS
open PySem PySem.Spec PyProof.Rows L2
section
variable {G : Gb} {X : Cx}
theorem szl_eq : (szl : Nat) = sizeLine := by rw [sizeLine_eq]; rfl
theorem two64 : (2 : Nat) ^ 64 = 18446744073709551616 := by decide
theorem DenL.ints {H : Hp} {O : Addr → Prop} : ∀ {ds : List D} {vs : List V} {ns : List Int}, ints? ds = some ns → DenL G H O ds vs → vs = ns.map V.int ∧ ds = ns.map D.int
  | [], _, _, e, h => by
    simp [ints?] at e
    subst e
    cases h
    exact ⟨rfl, rfl⟩
  | d :: ds, _, ns, e, h => by
    cases h with
    | cons r t =>
      cases r with
      | int i =>
        simp only [ints?, Option.map_eq_some_iff] at e
        obtain ⟨ms, e1, rfl⟩ := e
        obtain ⟨h1, h2⟩ := t.ints e1
        rw [h1, h2]
        exact ⟨rfl, rfl⟩
      | _ => simp [ints?] at e
theorem DenL.bls {H : Hp} {O : Addr → Prop} : ∀ {ds : List D} {vs : List V} {ns : List Bool}, bls? ds = some ns → DenL G H O ds vs → vs = ns.map V.bl
  | [], _, _, e, h => by
    simp [bls?] at e
    subst e
    cases h
    rfl
  | d :: ds, _, ns, e, h => by
    cases h with
    | cons r t =>
      cases r with
      | bl i =>
        simp only [bls?, Option.map_eq_some_iff] at e
        obtain ⟨ms, e1, rfl⟩ := e
        rw [t.bls e1]
        rfl
      | _ => simp [bls?] at e
theorem DenL.ofInts {H : Hp} {O : Addr → Prop} : ∀ ns : List Int, DenL G H O (ns.map D.int) (ns.map V.int)
  | [] => .nil
  | n :: ns => .cons (.int n) (DenL.ofInts ns)

/-! ### operators -/
section
variable (hK : X.K = G.K)
include hK
theorem ok_add : OpOk G X (binaryOp .Add) (binD .add) := by
  intro pins s σ H x y v u Q I rx ry h
  obtain ⟨O, a, b, hb, da, db, k⟩ := h
  cases da with
  | int i =>
    cases db with
    | int j => exact op_add pins s σ H _ _ v u Q I rx ry ⟨i, j, rfl, rfl, k _ _ (Same.refl _) (Res.of (.int _))⟩
    | _ => exact False.elim k
  | str i =>
    cases db with
    | str j =>
      simp only [binD] at k
      by_cases hc : i.length + j.length ≤ szl
      · rw [decide_eq_true hc, okIf_true] at k
        exact op_add_str pins s σ H _ _ v u Q I rx ry ⟨i, j, rfl, rfl, szl_eq ▸ hc, k _ _ (Same.refl _) (Res.of (.str _))⟩
      · rw [decide_eq_false hc] at k
        exact False.elim k
    | _ => exact False.elim k
  | @tup a xs ds _ hd qd r =>
    have q : SqT G.K _ a xs := tO_sq qd
    cases db with
    | @tup b ys es _ h2d q2d r2 =>
      have q2 : SqT G.K _ b ys := tO_sq q2d
      simp only [binD] at k
      by_cases hc : ds.length + es.length ≤ szl
      · rw [decide_eq_true hc, okIf_true] at k
        rw [← hK] at q q2
        refine op_catP pins s σ H _ _ v u Q I rx ry ⟨a, b, xs, ys, rfl, rfl, q, q2, ?_, fun e => ?_, fun _ e => ?_, fun _ _ => ⟨fzD (ds ++ es), fun p o hp hn => ?_⟩⟩
        · rw [← r.length, ← r2.length]
          exact szl_eq ▸ hc
        · subst e
          cases r
          exact k _ _ (Same.refl _) (Res.of (.tup h2d q2d r2))
        · subst e
          cases r2
          rw [List.append_nil] at k
          exact k _ _ (Same.refl _) (Res.of (.tup hd qd r))
        · exact k _ _ (same_new hp) (Res.of (Den.tupNew hn hp (r.append r2)))
      · rw [decide_eq_false hc] at k
        exact False.elim k
    | _ => exact False.elim k
  | @lst a xs ds q n r =>
    cases db with
    | @lst b ys es q2 n2 r2 =>
      simp only [binD] at k
      by_cases hc : ds.length + es.length ≤ szl
      · rw [decide_eq_true hc, okIf_true] at k
        refine op_cat pins s σ H _ _ v u Q I rx ry ⟨a, b, xs, ys, rfl, rfl, q, q2, ?_, fun p hp => ?_⟩
        · rw [← r.length, ← r2.length]
          exact szl_eq ▸ hc
        · exact k _ _ (same_new hp) (Res.mk hp hb (r.append r2))
      · rw [decide_eq_false hc] at k
        exact False.elim k
    | _ => exact False.elim k
  | _ => exact False.elim k
theorem ok_sub : OpOk G X (binaryOp .Sub) (binD .sub) := by
  intro pins s σ H x y v u Q I rx ry h
  obtain ⟨O, a, b, hb, da, db, k⟩ := h
  cases da with
  | int i =>
    cases db with
    | int j => exact op_sub pins s σ H _ _ v u Q I rx ry ⟨i, j, rfl, rfl, k _ _ (Same.refl _) (Res.of (.int _))⟩
    | _ => exact False.elim k
  | _ => exact False.elim k
theorem ok_mul : OpOk G X (binaryOp .Mult) (binD .mul) := by
  intro pins s σ H x y v u Q I rx ry h
  obtain ⟨O, a, b, hb, da, db, k⟩ := h
  cases da with
  | int i =>
    cases db with
    | int j =>
      simp only [binD] at k
      by_cases hc : (decide (i.natAbs < 18446744073709551616) || decide (j.natAbs < 18446744073709551616)) = true
      · rw [hc, okIf_true] at k
        refine op_mul pins s σ H _ _ v u Q I rx ry ⟨i, j, rfl, rfl, ?_, k _ _ (Same.refl _) (Res.of (.int _))⟩
        simp only [Bool.or_eq_true, decide_eq_true_eq] at hc
        unfold CMul
        have e : (2 : Int) ^ 64 = 18446744073709551616 := by decide
        rw [e]
        omega
      · rw [Bool.not_eq_true _ |>.mp hc] at k
        exact False.elim k
    | _ => exact False.elim k
  | @lst a xs ds q n r =>
    cases db with
    | int c =>
      simp only [binD] at k
      by_cases hc : (decide (0 ≤ c) && decide (c < 1000) && decide (ds.length ≤ 1000)) = true
      · rw [hc, okIf_true] at k
        simp only [Bool.and_eq_true, decide_eq_true_eq] at hc
        refine op_rep pins s σ H _ _ v u Q I rx ry ⟨a, c, xs, rfl, rfl, q, by omega, by omega, ?_, fun p hp => k _ _ (same_new hp) (Res.mk hp hb (r.rep _))⟩
        rw [← r.length, ← szl_eq]
        have h1 : c.toNat ≤ 1000 := by omega
        have h2 := Nat.mul_le_mul hc.2 h1
        unfold szl
        omega
      · rw [Bool.not_eq_true _ |>.mp hc] at k
        exact False.elim k
    | _ => exact False.elim k
  | @tup a xs ds _ hd qd r =>
    have q : SqT G.K _ a xs := tO_sq qd
    cases db with
    | int c =>
      simp only [binD] at k
      by_cases hc : (decide (1 ≤ c) && decide (c ≤ 1000) && decide (ds.length ≤ 1000) && !fzD ds) = true
      · rw [hc, okIf_true] at k
        simp only [Bool.and_eq_true, decide_eq_true_eq] at hc
        rw [← hK] at q
        by_cases c1 : c = 1
        · subst c1
          refine op_one pins s σ H _ _ v u Q I rx ry ⟨a, xs, rfl, rfl, q, k _ _ (Same.refl _) (Res.of ?_)⟩
          have e : (List.replicate (1 : Int).toNat ds).flatten = ds := by simp
          rw [e]
          rw [hK] at q
          exact .tup hd qd r
        refine op_repT pins s σ H _ _ v u Q I rx ry ⟨a, c, xs, rfl, rfl, q, fun e => ?_, by have := hc.1.1.1; omega, hc.1.1.2, r.length ▸ hc.1.2, fun p hp => k _ _ (same_new hp) (Res.of (Den.tupNew0 (o := noO) rfl (fz_rep hc.2 (by omega)) hp (r.rep _)))⟩
        subst e
        cases r
        exact absurd hc.2 (by decide)
      · rw [Bool.not_eq_true _ |>.mp hc] at k
        exact False.elim k
    | _ => exact False.elim k
  | _ => exact False.elim k
theorem ok_fdiv : OpOk G X (binaryOp .FloorDiv) (binD .fdiv) := by
  intro pins s σ H x y v u Q I rx ry h
  obtain ⟨O, a, b, hb, da, db, k⟩ := h
  cases da with
  | int i =>
    cases db with
    | int j =>
      simp only [binD] at k
      by_cases hc : (decide (0 < j) && decide (j.natAbs.log2 < 9000)) = true
      · rw [hc, okIf_true] at k
        simp only [Bool.and_eq_true, decide_eq_true_eq] at hc
        exact op_fdivW pins s σ H _ _ v u Q I rx ry ⟨i, j, rfl, rfl, hc, k _ _ (Same.refl _) (Res.of (.int _))⟩
      · rw [Bool.not_eq_true _ |>.mp hc] at k
        exact False.elim k
    | _ => exact False.elim k
  | _ => exact False.elim k
theorem ok_mod : OpOk G X (binaryOp .Mod) (binD .mod) := by
  intro pins s σ H x y v u Q I rx ry h
  obtain ⟨O, a, b, hb, da, db, k⟩ := h
  cases da with
  | int i =>
    cases db with
    | int j =>
      simp only [binD] at k
      by_cases hc : 0 < j
      · rw [decide_eq_true hc, okIf_true] at k
        exact op_mod pins s σ H _ _ v u Q I rx ry ⟨i, j, rfl, rfl, hc, k _ _ (Same.refl _) (Res.of (.int _))⟩
      · rw [decide_eq_false hc] at k
        exact False.elim k
    | _ => exact False.elim k
  | _ => exact False.elim k
theorem ok_pow : OpOk G X (binaryOp .Pow) (binD .pow) := by
  intro pins s σ H x y v u Q I rx ry h
  obtain ⟨O, a, b, hb, da, db, k⟩ := h
  cases da with
  | int i =>
    cases db with
    | int j =>
      simp only [binD] at k
      by_cases hc : (decide (0 ≤ j) && decide (j ≤ 1000000) && decide (i.natAbs < 18446744073709551616)) = true
      · rw [hc, okIf_true] at k
        simp only [Bool.and_eq_true, decide_eq_true_eq] at hc
        exact op_pow pins s σ H _ _ v u Q I rx ry ⟨i, j, rfl, rfl, ⟨hc.1.1, hc.1.2, by rw [two64]; exact hc.2⟩, k _ _ (Same.refl _) (Res.of (.int _))⟩
      · rw [Bool.not_eq_true _ |>.mp hc] at k
        exact False.elim k
    | _ => exact False.elim k
  | _ => exact False.elim k
theorem ok_shl : OpOk G X (binaryOp .LShift) (binD .shl) := by
  intro pins s σ H x y v u Q I rx ry h
  obtain ⟨O, a, b, hb, da, db, k⟩ := h
  cases da with
  | int i =>
    cases db with
    | int j =>
      simp only [binD] at k
      by_cases hc : (decide (0 ≤ j) && decide (j ≤ 1000000) && decide (i.natAbs < 18446744073709551616)) = true
      · rw [hc, okIf_true] at k
        simp only [Bool.and_eq_true, decide_eq_true_eq] at hc
        exact op_shl pins s σ H _ _ v u Q I rx ry ⟨i, j, rfl, rfl, ⟨hc.1.1, hc.1.2, by rw [two64]; exact hc.2⟩, k _ _ (Same.refl _) (Res.of (.int _))⟩
      · rw [Bool.not_eq_true _ |>.mp hc] at k
        exact False.elim k
    | _ => exact False.elim k
  | _ => exact False.elim k
end
theorem bin_noerr {o : Bop} {x y : D} {c : Nat} : binD o x y ≠ .err c := by
  unfold binD
  split <;> (try unfold okIf) <;> (try split) <;> simp

/-! ### comparisons -/
theorem flat_of {H : Hp} {O : Addr → Prop} {d : D} {v : V} (h : dat 0 d = true) (r : Den G H O d v) : flatV v = true := by
  cases r <;> first | rfl | (simp [dat] at h)
theorem flats_of {H : Hp} {O : Addr → Prop} : ∀ {ds : List D} {vs : List V}, dats 0 ds = true → DenL G H O ds vs → vs.all flatV = true
  | [], _, _, r => by cases r; rfl
  | d :: ds, _, h, r => by
    have h' : dat 0 d = true ∧ dats 0 ds = true := by simpa [dats] using h
    cases r with
    | cons a b => rw [List.all_cons, flat_of h'.1 a, flats_of h'.2 b]; rfl
theorem eqV_of {H : Hp} {O : Addr → Prop} {d e : D} {v w : V} (h : dat 0 d = true) (r : Den G H O d v) (h2 : dat 0 e = true) (r2 : Den G H O e w) : eqV v w = eqD d e := by
  cases r <;> first
    | (cases r2 <;> first | rfl | (simp [dat] at h2) | (simp [eqV, eqD]))
    | (simp [dat] at h)
theorem inV_of {H : Hp} {O : Addr → Prop} {d : D} {v : V} (h : dat 0 d = true) (r : Den G H O d v) : ∀ {ds : List D} {vs : List V}, dats 0 ds = true → DenL G H O ds vs → inV v vs = inD d ds
  | [], _, _, r2 => by cases r2; rfl
  | e :: ds, _, h2, r2 => by
    have h' : dat 0 e = true ∧ dats 0 ds = true := by simpa [dats] using h2
    cases r2 with
    | cons a b =>
      have ih := inV_of h r h'.2 b
      unfold inV at ih ⊢
      rw [List.any_cons, inD, eqV_of h'.1 a h r, ih]
section
variable (hK : X.K = G.K) (hu : X.A.units + 65 < cLine)
include hK hu
theorem ok_eq : CpOk G X .Eq .eq := by
  intro pins s σ H x y v u Q I rx ry h
  obtain ⟨O, a, b, hb, da, db, k⟩ := h
  simp only [cmpD] at k
  by_cases hc : (dat 60 a && dat 60 b) = true
  · rw [hc, okIf_true] at k
    simp only [Bool.and_eq_true] at hc
    refine op_eqD (by omega) pins s σ H _ _ v u Q I rx ry ⟨toPy a, toPy b, hK ▸ dp_of hc.1 da, hK ▸ dp_of hc.2 db, shaped_of hc.1 (by decide), shaped_of hc.2 (by decide), ?_⟩
    rw [eqv_of hc.1 hc.2]
    exact k
  · rw [Bool.not_eq_true _ |>.mp hc] at k
    exact False.elim k
theorem ok_ne : CpOk G X .NotEq .ne := by
  intro pins s σ H x y v u Q I rx ry h
  obtain ⟨O, a, b, hb, da, db, k⟩ := h
  have gen : (match okIf (dat 60 a && dat 60 b) (!eqD a b) with | .ok k => Q (.bl k) H | _ => False) → wpAny (model X.prog X.w) X.A (compareOp .NotEq v u) (EP X pins σ Q) X.xe s := by
    intro k
    by_cases hc : (dat 60 a && dat 60 b) = true
    · rw [hc, okIf_true] at k
      simp only [Bool.and_eq_true] at hc
      refine op_neD (by omega) pins s σ H _ _ v u Q I rx ry ⟨toPy a, toPy b, hK ▸ dp_of hc.1 da, hK ▸ dp_of hc.2 db, shaped_of hc.1 (by decide), shaped_of hc.2 (by decide), ?_⟩
      rw [eqv_of hc.1 hc.2]
      exact k
    · rw [Bool.not_eq_true _ |>.mp hc] at k
      exact False.elim k
  cases da with
  | @scr a ns q1 =>
    cases db with
    | lst q2 n2 r2 =>
      cases r2 with
      | nil =>
        rw [← hK] at q1
        have hd : Dp X.K H (V.ref a) (.list (ns.map PyData.int)) := .lst (scr_sq q1) (by
          clear q1 k gen
          induction ns with
          | nil => exact .nil
          | cons m ms ih => exact .cons (.int m) ih)
        have he : Dp X.K H (V.ref _) (.list []) := .lst (.inl (.inl q2)) .nil
        have s1 : SeqAt.shaped (.list (ns.map PyData.int)) = true := by
          have h1 : ∀ ms : List Int, PyData.canLayAll0 (ms.map PyData.int) = true ∧ PyData.depthAll (ms.map PyData.int) = 0 := by
            intro ms
            induction ms with
            | nil => simp [PyData.canLayAll0, PyData.depthAll]
            | cons m ms ih => simp [PyData.canLayAll0, PyData.depthAll, PyData.canLay0, PyData.depth, ih.1, ih.2]
          simp [SeqAt.shaped, PyData.canLay0, PyData.depth, (h1 ns).1, (h1 ns).2]
        refine op_neD (by omega) pins s σ H _ _ v u Q I rx ry ⟨_, _, hd, he, s1, by decide, ?_⟩
        have e : PyData.eqv (.list (ns.map PyData.int)) (.list []) = ns.isEmpty := by cases ns <;> simp [PyData.eqv, PyData.eqvAll]
        rw [e]
        exact k
      | cons r t => exact gen k
    | _ => exact gen k
  | _ => exact gen k
theorem inD_eqv {x : D} {n m : Nat} (hx : dat n x = true) : ∀ {ys : List D}, dats m ys = true → (toPy.toPys ys).any (fun z => PyData.eqv z (toPy x)) = inD x ys
  | [], _ => rfl
  | y :: ys, h => by
    have h' : dat m y = true ∧ dats m ys = true := by simpa [dats] using h
    simp only [toPy.toPys, List.any_cons, inD]
    rw [eqv_of h'.1 hx, inD_eqv hx h'.2]
theorem ok_in : CpOk G X .In .isin := by
  intro pins s σ H x y v u Q I rx ry h
  obtain ⟨O, a, b, hb, da, db, k⟩ := h
  cases db with
  | @lst p ys es q n r =>
    simp only [cmpD] at k
    by_cases hc : (dat 60 a && dats 59 es) = true
    · rw [hc, okIf_true] at k
      simp only [Bool.and_eq_true] at hc
      have hl : dat 60 (.lst es) = true := by simpa [dat] using hc.2
      refine op_inD hu pins s σ H _ _ v u Q I rx ry ⟨toPy a, toPy.toPys es, hK ▸ dp_of hc.1 da, hK ▸ dp_of hl (.lst q n r), shaped_of hc.1 (by decide), shaped_of hl (by decide), ?_⟩
      rw [inD_eqv hK hu hc.1 hc.2]
      exact k
    · rw [Bool.not_eq_true _ |>.mp hc] at k
      exact False.elim k
  | @tup p ys es _ hd qd r =>
    have q : SqT G.K _ p ys := tO_sq qd
    simp only [cmpD] at k
    by_cases hc : (dat 0 a && dats 0 es) = true
    · rw [hc, okIf_true] at k
      simp only [Bool.and_eq_true] at hc
      rw [← hK] at q
      refine op_in_seq pins s σ H _ _ v u Q I rx ry ⟨p, ys, rfl, .inr q, flat_of hc.1 da, flats_of hc.2 r, ?_⟩
      rw [if_neg (by simp), inV_of hc.1 da hc.2 r]
      exact k
    · rw [Bool.not_eq_true _ |>.mp hc] at k
      exact False.elim k
  | str z =>
    cases da with
    | str y =>
      simp only [cmpD] at k
      unfold inS at k
      cases e : y.cps.toList with
      | nil => rw [e] at k; exact False.elim k
      | cons c t =>
        cases t with
        | cons _ _ => rw [e] at k; exact False.elim k
        | nil =>
          have ey : y = ⟨#[c]⟩ := Str.ext' (Array.toList_inj.mp e)
          subst ey
          exact op_in_sign pins s σ H _ _ v u Q I rx ry ⟨c, z, rfl, rfl, k⟩
    | _ => exact False.elim k
  | _ => cases a <;> exact False.elim k
theorem ok_notin : CpOk G X .NotIn .notin := by
  intro pins s σ H x y v u Q I rx ry h
  obtain ⟨O, a, b, hb, da, db, k⟩ := h
  cases db with
  | @lst p ys es q n r =>
    simp only [cmpD] at k
    by_cases hc : (dat 60 a && dats 59 es) = true
    · rw [hc, okIf_true] at k
      simp only [Bool.and_eq_true] at hc
      have hl : dat 60 (.lst es) = true := by simpa [dat] using hc.2
      refine op_notInD hu pins s σ H _ _ v u Q I rx ry ⟨toPy a, toPy.toPys es, hK ▸ dp_of hc.1 da, hK ▸ dp_of hl (.lst q n r), shaped_of hc.1 (by decide), shaped_of hl (by decide), ?_⟩
      rw [inD_eqv hK hu hc.1 hc.2]
      exact k
    · rw [Bool.not_eq_true _ |>.mp hc] at k
      exact False.elim k
  | @tup p ys es _ hd qd r =>
    have q : SqT G.K _ p ys := tO_sq qd
    simp only [cmpD] at k
    by_cases hc : (dat 0 a && dats 0 es) = true
    · rw [hc, okIf_true] at k
      simp only [Bool.and_eq_true] at hc
      rw [← hK] at q
      refine op_notIn_seq pins s σ H _ _ v u Q I rx ry ⟨p, ys, rfl, .inr q, flat_of hc.1 da, flats_of hc.2 r, ?_⟩
      rw [if_pos rfl, inV_of hc.1 da hc.2 r]
      exact k
    · rw [Bool.not_eq_true _ |>.mp hc] at k
      exact False.elim k
  | str z =>
    cases da with
    | str y =>
      simp only [cmpD] at k
      unfold inS at k
      cases e : y.cps.toList with
      | nil => rw [e] at k; exact False.elim k
      | cons c t =>
        cases t with
        | cons _ _ => rw [e] at k; exact False.elim k
        | nil =>
          have ey : y = ⟨#[c]⟩ := Str.ext' (Array.toList_inj.mp e)
          subst ey
          exact op_notIn_sign pins s σ H _ _ v u Q I rx ry ⟨c, z, rfl, rfl, k⟩
    | _ => exact False.elim k
  | _ => cases a <;> exact False.elim k
end
theorem ok_lt (hK : X.K = G.K) (hu : X.A.units < cLine) : CpOk G X .Lt .lt := by
  intro pins s σ H x y v u Q I rx ry h
  obtain ⟨O, a, b, hb, da, db, k⟩ := h
  cases da with
  | @tup p xs es _ hd q1 q2 =>
    cases db with
    | @tup p' ys fs _ hd2 q3 q4 =>
      simp only [cmpD, ltT] at k
      cases e1 : ints? es with
      | none => rw [e1] at k; exact False.elim k
      | some ns =>
        cases e2 : ints? fs with
        | none => rw [e1, e2] at k; exact False.elim k
        | some ms =>
          rw [e1, e2] at k
          obtain ⟨z1, _⟩ := q2.ints e1
          obtain ⟨z2, _⟩ := q4.ints e2
          subst z1 z2
          exact op_ltT hu pins s σ H _ _ v u Q I rx ry ⟨p, p', ns, ms, rfl, rfl, tO_sq q1, tO_sq q3, k⟩
    | _ => exact False.elim k
  | str y =>
    cases db with
    | str z => exact op_lt_str pins s σ H _ _ v u Q I rx ry ⟨y, z, rfl, rfl, k⟩
    | _ => exact False.elim k
  | int i =>
    cases db with
    | int j => exact op_lt pins s σ H _ _ v u Q I rx ry ⟨i, j, rfl, rfl, k⟩
    | _ => exact False.elim k
  | _ => exact False.elim k
theorem ok_le : CpOk G X .LtE .le := by
  intro pins s σ H x y v u Q I rx ry h
  obtain ⟨O, a, b, hb, da, db, k⟩ := h
  cases da with
  | int i =>
    cases db with
    | int j => exact op_le pins s σ H _ _ v u Q I rx ry ⟨i, j, rfl, rfl, k⟩
    | _ => exact False.elim k
  | _ => exact False.elim k
theorem ok_gt (hK : X.K = G.K) (hu : X.A.units < cLine) : CpOk G X .Gt .gt := by
  intro pins s σ H x y v u Q I rx ry h
  obtain ⟨O, a, b, hb, da, db, k⟩ := h
  cases da with
  | @tup p xs es _ hd q1 q2 =>
    cases db with
    | @tup p' ys fs _ hd2 q3 q4 =>
      simp only [cmpD, ltT] at k
      cases e1 : ints? es with
      | none => rw [e1] at k; exact False.elim k
      | some ns =>
        cases e2 : ints? fs with
        | none => rw [e1, e2] at k; exact False.elim k
        | some ms =>
          rw [e1, e2] at k
          obtain ⟨z1, _⟩ := q2.ints e1
          obtain ⟨z2, _⟩ := q4.ints e2
          subst z1 z2
          exact op_gtT hu pins s σ H _ _ v u Q I rx ry ⟨p, p', ns, ms, rfl, rfl, tO_sq q1, tO_sq q3, k⟩
    | _ => exact False.elim k
  | int i =>
    cases db with
    | int j => exact op_gt pins s σ H _ _ v u Q I rx ry ⟨i, j, rfl, rfl, k⟩
    | _ => exact False.elim k
  | _ => exact False.elim k
theorem ok_ge : CpOk G X .GtE .ge := by
  intro pins s σ H x y v u Q I rx ry h
  obtain ⟨O, a, b, hb, da, db, k⟩ := h
  cases da with
  | int i =>
    cases db with
    | int j => exact op_ge pins s σ H _ _ v u Q I rx ry ⟨i, j, rfl, rfl, k⟩
    | _ => exact False.elim k
  | _ => exact False.elim k
end
end SS

set_option maxRecDepth 100000
set_option maxHeartbeats 4000000
/-! SSE: names, displays, subscripts, builtins, calls -/
namespace SS
open PySem PySem.Spec PyProof.Rows L2
section
variable {G : Gb} {X : Cx} {W : WX}
/-! ### names, constants, displays -/
theorem de_var {i : Nat} {x : Str} {pos : Pos} (hN : X.N[i]? = some x) (hv : Vis X.env.scope x) (hd : (x == ("__debug__" : Str)) = false) (hcd : (x == ("__classdict__" : Str)) = false) :
    PE X (.Name x pos) (rdE G W fun ρ => match ρ[i]? with | some (some d) => .ok (d, false) | _ => .bad) := by
  refine PE_imp (pe_var hN hv hd hcd) fun σ H Q h => ?_
  obtain ⟨ρ, O, hb, hr, h⟩ := h
  cases e : ρ[i]? with
  | none => simp only [e] at h; exact False.elim h
  | some o =>
    cases o with
    | none => simp only [e] at h; exact False.elim h
    | some d =>
      simp only [e] at h
      obtain ⟨v, h1, h2⟩ := hr.2 i d e
      exact ⟨v, h1, h v H (Same.refl _) (Res.of h2)⟩
theorem de_cst {e : Expr} {v : V} {d : D} (h : PE X e (tC v)) (hd : ∀ H O, Den G H O d v) : PE X e (rdE G W fun _ => .ok (d, false)) :=
  PE_imp h fun σ H Q ⟨ρ, O, hb, hr, h⟩ => h v H (Same.refl _) (Res.of (hd H O))
theorem da_nil : PA X [] (rdA G W fun _ => .ok []) := PA_imp pa_nil fun σ H Q ⟨ρ, O, hb, hr, h⟩ => h [] H (Same.refl _) .nil
theorem da_cons {e : Expr} {es : List Expr} {f : Ev → R DB} {g : Ev → R (List D)} (ha : PE X e (rdE G W f)) (hr : PA X es (rdA G W g)) (hs : starEach (e :: es) X.env = (false, eval e X.env) :: starEach es X.env) :
    PA X (e :: es) (rdA G W fun ρ => (f ρ).bind fun x => (g ρ).bind fun xs => .ok (x.1 :: xs)) := by
  refine PA_imp (pa_cons ha hr hs) fun σ H Q ⟨ρ, O, hb, hr, h⟩ => ?_
  refine ⟨ρ, O, hb, hr, kE_bindA hb h fun d v H1 _ s hb1 r h1 => ⟨ρ, O, hb1, hr.same s, kA_bindA hb1 h1 fun ds vs H2 _ s2 hb2 r2 h2 => ?_⟩⟩
  exact h2 _ _ (Same.refl _) (.cons ((r.den hb).same s2) r2)
theorem de_tup {es : List Expr} {x1 : Nat} {pos : Pos} {f : Ev → R (List D)} (h : PA X es (rdA G W f)) (hl : ∀ ρ ds, f ρ = .ok ds → ds.length ≤ szl) :
    PE X (.Tuple es x1 pos) (rdE G W fun ρ => (f ρ).bind fun ds => .ok (.tup ds, false)) := by
  refine PE_imp (pe_tupP h) fun σ H Q ⟨ρ, O, hb, hr, h⟩ => ⟨ρ, O, hb, hr, kA_bind hb h fun ds vs H1 e s hb1 r h1 => ⟨?_, fzD ds, fun p o hp hn => h1 _ _ (same_new hp) (Res.of (Den.tupNew hn hp r))⟩⟩
  rw [← r.length, ← szl_eq]
  exact hl _ _ e
theorem de_lst {es : List Expr} {pos : Pos} {f : Ev → R (List D)} (h : PA X es (rdA G W f)) (hl : ∀ ρ ds, f ρ = .ok ds → ds.length ≤ szl) :
    PE X (.List es pos) (rdE G W fun ρ => (f ρ).bind fun ds => .ok (.lst ds, true)) := by
  refine PE_imp (pe_lst h) fun σ H Q ⟨ρ, O, hb, hr, h⟩ => ⟨ρ, O, hb, hr, kA_bind hb h fun ds vs H1 e s hb1 r h1 => ⟨?_, fun p hp => h1 _ _ (same_new hp) (Res.mk hp hb1 r)⟩⟩
  rw [← r.length, ← szl_eq]
  exact hl _ _ e
theorem de_dnew {pos : Pos} : PE X (.Dict [] [] pos) (rdE G W fun _ => .ok (.dct [] [], true)) :=
  PE_imp pe_dnewT fun σ H Q ⟨ρ, O, hb, hr, h⟩ p hp => h _ _ (same_new hp) (Res.mkD hp)
theorem de_rev {a : Expr} {f : Ev → R DB} {k : Nat} {p1 p2 p3 pos : Pos} (hK : X.K = G.K) (ha : PE X a (rdE G W f)) : PE X (.Subscript a (.Slice none none (some (.UnaryOp .USub (.Constant (.int 1) k p1) p2)) p3) pos) (rdE G W fun ρ => (f ρ).bind fun x => revD x.1) := by
  refine PE_imp (pe_revT ha) fun σ H Q ⟨ρ, O, hb, hr, h⟩ => ⟨ρ, O, hb, hr, kE_bind hb h fun d v H1 _ s hb1 r h1 => ?_⟩
  have r' := r.den hb
  obtain ⟨d1, d2⟩ := d
  cases r' with
  | @tup p xs es _ hd q1 q2 => exact ⟨p, xs, rfl, tO_sq q1, fzD es.reverse, fun z o hz hn => h1 _ _ (same_new hz) (Res.of (Den.tupNew hn hz q2.reverse))⟩
  | _ => exact False.elim h1
theorem de_neg {a : Expr} {f : Ev → R DB} {pos : Pos} (ha : PE X a (rdE G W f)) : PE X (.UnaryOp .USub a pos) (rdE G W fun ρ => (f ρ).bind fun x => match x.1 with | .int i => .ok (.int (-i), false) | _ => .bad) := by
  refine PE_imp (pe_un un_neg ha) fun σ H Q ⟨ρ, O, hb, hr, h⟩ => ⟨ρ, O, hb, hr, kE_bind hb h fun d v H1 _ s hb1 r h1 => ?_⟩
  have r' := r.den hb
  obtain ⟨d1, d2⟩ := d
  cases r' with
  | int i => exact ⟨i, rfl, h1 _ _ (Same.refl _) (Res.of (.int _))⟩
  | _ => exact False.elim h1
theorem de_isN {a : Expr} {f : Ev → R DB} {pos pos' : Pos} {j : Nat} (ha : PE X a (rdE G W f)) : PE X (.Compare a [.Is] [.Constant .none j pos'] pos) (rdE G W fun ρ => (f ρ).bind fun x => match isD .non x.1 with | some b => .ok (.bl (if true then b else !b), false) | none => .bad) := by
  refine PE_imp (pe_cmp (pc_isN ha) rfl) fun σ H Q ⟨ρ, O, hb, hr, h⟩ => ⟨ρ, O, hb, hr, kE_bind hb h fun d v H1 _ s hb1 r h1 => ?_⟩
  have r' := r.den hb
  obtain ⟨d1, d2⟩ := d
  cases r' <;> exact h1 _ _ (Same.refl _) (Res.of (.bl _))
theorem de_notN {a : Expr} {f : Ev → R DB} {pos pos' : Pos} {j : Nat} (ha : PE X a (rdE G W f)) : PE X (.Compare a [.IsNot] [.Constant .none j pos'] pos) (rdE G W fun ρ => (f ρ).bind fun x => match isD .non x.1 with | some b => .ok (.bl (if false then b else !b), false) | none => .bad) := by
  refine PE_imp (pe_cmp (pc_notN ha) rfl) fun σ H Q ⟨ρ, O, hb, hr, h⟩ => ⟨ρ, O, hb, hr, kE_bind hb h fun d v H1 _ s hb1 r h1 => ?_⟩
  have r' := r.den hb
  obtain ⟨d1, d2⟩ := d
  cases r' <;> exact h1 _ _ (Same.refl _) (Res.of (.bl _))
theorem de_isB {a : Expr} {f : Ev → R DB} {pos pos' : Pos} {j : Nat} {c : Bool} (ha : PE X a (rdE G W f)) : PE X (.Compare a [.Is] [.Constant (.bool c) j pos'] pos) (rdE G W fun ρ => (f ρ).bind fun x => match isD (.bl c) x.1 with | some b => .ok (.bl (if true then b else !b), false) | none => .bad) := by
  refine PE_imp (pe_cmpR op_isBl ha pe_bl (nomark _)) fun σ H Q ⟨ρ, O, hb, hr, h⟩ => ⟨ρ, O, hb, hr, kE_bind hb h fun d v H1 _ s hb1 r h1 => ?_⟩
  have r' := r.den hb
  obtain ⟨d1, d2⟩ := d
  cases r' with
  | bl k =>
    have q := h1 _ _ (Same.refl _) (Res.of (.bl _))
    exact ⟨k, c, rfl, rfl, by
      have e : decide (k = c) = decide (c = k) := by cases k <;> cases c <;> rfl
      rw [e]; exact q⟩
  | _ => exact False.elim h1
theorem de_notB {a : Expr} {f : Ev → R DB} {pos pos' : Pos} {j : Nat} {c : Bool} (ha : PE X a (rdE G W f)) : PE X (.Compare a [.IsNot] [.Constant (.bool c) j pos'] pos) (rdE G W fun ρ => (f ρ).bind fun x => match isD (.bl c) x.1 with | some b => .ok (.bl (if false then b else !b), false) | none => .bad) := by
  refine PE_imp (pe_cmpR op_notBl ha pe_bl (nomark _)) fun σ H Q ⟨ρ, O, hb, hr, h⟩ => ⟨ρ, O, hb, hr, kE_bind hb h fun d v H1 _ s hb1 r h1 => ?_⟩
  have r' := r.den hb
  obtain ⟨d1, d2⟩ := d
  cases r' with
  | bl k =>
    have q := h1 _ _ (Same.refl _) (Res.of (.bl _))
    exact ⟨k, c, rfl, rfl, by
      have e : (!decide (k = c)) = !decide (c = k) := by cases k <;> cases c <;> rfl
      rw [e]; exact q⟩
  | _ => exact False.elim h1
/-- a value as a test -/
theorem dt_val {e : Expr} {f : Ev → R DB} (h : PE X e (rdE G W f)) (he : ∀ whole, isTrue e X.env whole = (do let v ← whole; standAt e.pos; holding [v] (truthy v))) : PT X e (rdT G W fun ρ => boolR (f ρ)) :=
  PT_imp (pt_val h he) fun σ H Q h => rdT_bool h

/-! ### subscripts -/
def rIxD (G : Gb) : R2 := fun x y H Q => ∃ (O : Addr → Prop) (a b : D), Bnd G O H ∧ Den G H O a x ∧ Den G H O b y ∧
    match ixD a b with | .ok db => ∀ v H', Same G H H' → Res G H H' O db v → Q v H' | _ => False
theorem atI_den {H : Hp} {O : Addr → Prop} {ds : List D} {vs : List V} {i : Int} {d : D} (r : DenL G H O ds vs) (h : atI ds i = some d) : ∃ v, atI vs i = some v ∧ Den G H O d v := by
  unfold atI at h ⊢
  rw [← r.length]
  obtain ⟨j, h1, h2⟩ := Option.bind_eq_some_iff.mp h
  obtain ⟨v, h3, h4⟩ := r.get h2
  exact ⟨v, by rw [h1]; exact h3, h4⟩
theorem atI_map {α β : Type} (f : α → β) (xs : List α) (i : Int) : atI (xs.map f) i = (atI xs i).map f := by
  unfold atI
  rw [List.length_map]
  cases ixN xs.length i with
  | none => rfl
  | some j => simp
/-! dicts -/
theorem map_inl {a b : List Int} (h : a.map (Sum.inl : Int → Key) = b.map Sum.inl) : a = b := by
  induction a generalizing b with
  | nil => cases b with
    | nil => rfl
    | cons _ _ => simp at h
  | cons x a ih =>
    cases b with
    | nil => simp at h
    | cons y b =>
      simp only [List.map_cons, List.cons.injEq] at h
      rw [Sum.inl.inj h.1, ih h.2]
theorem kvz_cons (k : List Int) (ks : List (List Int)) (x : V) (xs : List V) : kvz (k :: ks) (x :: xs) = (k.map Sum.inl, x) :: kvz ks xs := rfl
theorem getK_den {H : Hp} {O : Addr → Prop} : ∀ {ks : List (List Int)} {ds : List D} {xs : List V} {q : List Int} {d : D}, DenL G H O ds xs → getK ks ds q = some d → ∃ v, valV (kvz ks xs) (q.map Sum.inl) = some v ∧ Den G H O d v
  | [], _, _, _, _, _, h => by simp [getK] at h
  | k :: ks, [], _, _, _, _, h => by simp [getK] at h
  | k :: ks, d' :: ds, _, q, d, r, h => by
    cases r with
    | @cons _ _ x xs r t =>
      rw [kvz_cons]
      simp only [getK] at h
      by_cases c : k = q
      · rw [if_pos c] at h
        cases h
        subst c
        exact ⟨x, valV_pos rfl, r⟩
      · rw [if_neg c] at h
        obtain ⟨v, h1, h2⟩ := getK_den t h
        exact ⟨v, by rw [valV_neg (fun e => c (map_inl e))]; exact h1, h2⟩
theorem kvs_cons (k : Str) (ks : List Str) (x : V) (xs : List V) : kvs (k :: ks) (x :: xs) = (.inr k, x) :: kvs ks xs := rfl
theorem getS_den {H : Hp} {O : Addr → Prop} : ∀ {ks : List Str} {ds : List D} {xs : List V} {q : Str} {d : D}, DenL G H O ds xs → getS ks ds q = some d → ∃ v, valV (kvs ks xs) (.inr q : Key) = some v ∧ Den G H O d v
  | [], _, _, _, _, _, h => by simp [getS] at h
  | k :: ks, [], _, _, _, _, h => by simp [getS] at h
  | k :: ks, d' :: ds, _, q, d, r, h => by
    cases r with
    | @cons _ _ x xs r t =>
      rw [kvs_cons]
      simp only [getS] at h
      by_cases c : k = q
      · rw [if_pos c] at h
        cases h
        subst c
        exact ⟨x, valV_pos rfl, r⟩
      · rw [if_neg c] at h
        obtain ⟨v, h1, h2⟩ := getS_den t h
        exact ⟨v, by rw [valV_neg (fun e => c (Sum.inr.inj e))]; exact h1, h2⟩
theorem ix_dct (hu : X.A.units + 1 < cLine) : IxR X (fun x y H Q => ∃ a v, x = V.ref a ∧ DGet H a y (some v) ∧ Q v H) := by
  intro value slice pins s σ H x y v u Q I rx ry h hs
  obtain ⟨a, z, rfl, g, q⟩ := h
  obtain rfl : v = Value.ref a := rx
  have ty := dict_typeIs I g
  unfold subscriptTail
  refine wpAny_bind ?_
  rw [getitemInPython_of_ne ty.not_modules]
  refine wpAny_bind (wpAny_specialOf ty PySem.F.slot_dict_getitem.lookup ?_)
  have last : wpAny (model X.prog X.w) X.A (subscripted slice false (.ref a) u) (fun r s3 => wpAny (model X.prog X.w) X.A (letTemporaryGo value (.ref a) r >>= fun _ => pure r) (EP X pins σ Q) X.xe s3) X.xe s := by
    rw [hs]
    exact wpAny_operating (d_getItem hu I g ry fun w' s3 I3 rw' => wpAny_bind (wpAny_letTemporaryGo (wpAny_pure ⟨z, H, I3, rw', q⟩)))
  first
    | exact wpAny_pure (wpAny_bind last)
    | exact wpAny_bind (wpAny_pure (wpAny_bind last))
    | exact wpAny_bind last
theorem key_map (ns : List Int) : ns.map V.int = (ns.map (Sum.inl : Int → Key)).map kV := by rw [List.map_map]; rfl
theorem ok_ix (hK : X.K = G.K) (hu : X.A.units + 65 < cLine) : IxR X (rIxD G) := by
  intro value slice pins s σ H x y v u Q I rx ry h hs
  obtain ⟨O, a, b, hb, da, db, k⟩ := h
  cases da with
  | @tup p xs ds _ hd qd r =>
    have q : SqT G.K _ p xs := tO_sq qd
    cases db with
    | int i =>
      simp only [ixD, atD] at k
      cases e : atI ds i with
      | none => rw [e] at k; exact False.elim k
      | some d =>
        rw [e] at k
        obtain ⟨w, h1, h2⟩ := atI_den r e
        rw [← hK] at q
        exact ix_tup value slice pins s σ H _ _ v u Q I rx ry ⟨p, xs, i, w, rfl, rfl, q, h1, k _ _ (Same.refl _) (Res.of h2)⟩ hs
    | _ => exact False.elim k
  | @lst p xs ds q n r =>
    cases db with
    | int i =>
      simp only [ixD, atD] at k
      cases e : atI ds i with
      | none => rw [e] at k; exact False.elim k
      | some d =>
        rw [e] at k
        obtain ⟨w, h1, h2⟩ := atI_den r e
        exact ix_list value slice pins s σ H _ _ v u Q I rx ry ⟨p, xs, i, w, rfl, rfl, .inl (.inl q), h1, k _ _ (Same.refl _) (Res.of h2)⟩ hs
    | _ => exact False.elim k
  | @scr p ns q =>
    cases db with
    | int i =>
      simp only [ixD] at k
      cases e : atI ns i with
      | none => rw [e] at k; exact False.elim k
      | some d =>
        rw [e] at k
        rw [← hK] at q
        exact ix_list value slice pins s σ H _ _ v u Q I rx ry ⟨p, _, i, .int d, rfl, rfl, (scr_sq q), by rw [atI_map, e]; rfl, k _ _ (Same.refl _) (Res.of (.int _))⟩ hs
    | _ => exact False.elim k
  | str z =>
    cases db with
    | int i =>
      simp only [ixD] at k
      cases e : atI z.cps.toList i with
      | none => rw [e] at k; exact False.elim k
      | some d =>
        rw [e] at k
        by_cases hc : z.length ≤ szl
        · simp only [decide_eq_true hc, okIf_true] at k
          exact ix_str value slice pins s σ H _ _ v u Q I rx ry ⟨z, i, d, rfl, rfl, szl_eq ▸ hc, e, k _ _ (Same.refl _) (Res.of (.str _))⟩ hs
        · simp only [decide_eq_false hc] at k
          exact False.elim k
    | _ => exact False.elim k
  | @dct p ks xs ds e hl n r =>
    cases db with
    | @tup b ys es _ hd q r2 =>
      simp only [ixD] at k
      cases ei : ints? es with
      | none => rw [ei] at k; exact False.elim k
      | some ns =>
        rw [ei] at k
        dsimp only at k
        by_cases hne : ns = []
        · rw [if_pos hne] at k; exact False.elim k
        rw [if_neg hne] at k
        rw [fz_int ei hne] at q
        cases eg : getK ks ds ns with
        | none => rw [eg] at k; exact False.elim k
        | some d =>
          rw [eg] at k
          obtain ⟨e1, _⟩ := r2.ints ei
          subst e1
          obtain ⟨w, h1, h2⟩ := getK_den r eg
          have q : _ = some (HO.tup _) := q
          rw [key_map] at q
          exact ix_dct (by omega) value slice pins s σ H _ _ v u Q I rx ry ⟨p, w, rfl, by rw [← h1]; exact .t e q, k _ _ (Same.refl _) (Res.of h2)⟩ hs
    | _ => exact False.elim k
  | @dcs p ks xs ds e hl n r =>
    cases db with
    | str y =>
      simp only [ixD] at k
      cases eg : getS ks ds y with
      | none => rw [eg] at k; exact False.elim k
      | some d =>
        rw [eg] at k
        obtain ⟨w, h1, h2⟩ := getS_den r eg
        exact ix_dct (by omega) value slice pins s σ H _ _ v u Q I rx ry ⟨p, w, rfl, by rw [← h1]; exact DGet.k (k := .inr y) e, k _ _ (Same.refl _) (Res.of h2)⟩ hs
    | _ => exact False.elim k
  | _ => exact False.elim k
theorem ix_noerr {x y : D} {c : Nat} : ixD x y ≠ .err c := by
  unfold ixD
  split <;> (try unfold atD) <;> (try split) <;> (try unfold okIf) <;> (try split) <;> (try split) <;> simp
theorem de_ix {a b : Expr} {f g : Ev → R DB} {pos : Pos} (hK : X.K = G.K) (hu : X.A.units + 65 < cLine) (ha : PE X a (rdE G W f)) (hb : PE X b (rdE G W g)) (hs : PlainIx b) :
    PE X (.Subscript a b pos) (rdE G W fun ρ => (f ρ).bind fun x => (g ρ).bind fun y => ixD x.1 y.1) := by
  refine PE_imp (pe_ix (ok_ix hK hu) ha hb hs) fun σ H Q h => rdE_bind2 h fun O x y v w H1 b1 d1 d2 k => ⟨O, x.1, y.1, b1, d1, d2, ?_⟩
  cases e : ixD x.1 y.1 with
  | ok db => rw [e] at k; exact k
  | err c => exact absurd e ix_noerr
  | bad => rw [e] at k; exact k
def rSlD (G : Gb) : V → Option Int → Option Int → Hp → VK → Prop := fun x lo hi H Q => ∃ (O : Addr → Prop) (a : D), Bnd G O H ∧ Den G H O a x ∧
    match slD a lo hi with | .ok db => ∀ v H', Same G H H' → Res G H H' O db v → Q v H' | _ => False
theorem cut_den {H : Hp} {O : Addr → Prop} {ds : List D} {vs : List V} (lo hi : Option Int) (r : DenL G H O ds vs) : DenL G H O (cutD ds lo hi) (cutV vs lo hi) := by
  unfold cutD cutV
  rw [r.length]
  exact (r.drop _).take _
theorem ok_sl (hK : X.K = G.K) : SlR X (rSlD G) := by
  intro pins s σ H x v vl vu lo hi sl Q I rx hs pl pu h
  obtain ⟨O, a, hb, da, k⟩ := h
  cases da with
  | @tup p xs ds _ hd qd r =>
    have q : SqT G.K _ p xs := tO_sq qd
    simp only [slD] at k
    rw [← hK] at q
    refine sl_tupP pins s σ H _ v vl vu lo hi sl Q I rx hs pl pu ⟨p, xs, rfl, q, fun e => ?_, fun _ => ⟨fzD (cutD ds lo hi), fun z o hz hn => k _ _ (same_new hz) (Res.of (Den.tupNew hn hz (cut_den lo hi r)))⟩⟩
    have e2 : cutD ds lo hi = ds := by
      unfold cutD
      rw [r.length, e.1, e.2, List.drop_zero, Nat.sub_zero]
      rw [← r.length, List.take_length]
    rw [e2] at k
    exact k _ _ (Same.refl _) (Res.of (.tup hd qd r))
  | @lst p xs ds q n r =>
    simp only [slD] at k
    exact sl_list pins s σ H _ v vl vu lo hi sl Q I rx hs pl pu ⟨p, xs, rfl, .inl (.inl q), fun z hz => k _ _ (same_new hz) (Res.mk hz hb (cut_den lo hi r))⟩
  | _ => exact False.elim k
theorem sl_noerr {x : D} {l h : Option Int} {c : Nat} : slD x l h ≠ .err c := by
  unfold slD
  split <;> simp
theorem kE_int {σ : Sg} {O : Addr → Prop} {H : Hp} {r : R DB} {g : Int → R DB} {Q : VK} {R' : Option Int → Hp → Prop} (hb : Bnd G O H) (h : kE G W σ O H Q ((intR r).bind g))
    (k : ∀ i H1, Same G H H1 → Bnd G O H1 → kE G W σ O H1 Q (g i) → R' (some i) H1) : kE G W σ O H (fun x H1 => ∃ i, x = .int i ∧ R' (some i) H1) r := by
  have e : (intR r).bind g = r.bind fun d => (match d.1 with | .int b => R.ok b | _ => R.bad).bind g := by cases r <;> rfl
  rw [e] at h
  refine kE_bind hb h fun d v H1 _ s b r h => ?_
  have r' := r.den hb
  obtain ⟨d1, d2⟩ := d
  cases r' with
  | int i => exact ⟨i, rfl, k i H1 s b h⟩
  | _ => exact False.elim h
theorem sl_end {σ : Sg} {O : Addr → Prop} {H : Hp} {x : D} {v : V} {lo hi : Option Int} {Q : VK} (hb : Bnd G O H) (d : Den G H O x v) (h : kE G W σ O H Q (slD x lo hi)) : rSlD G v lo hi H Q := by
  refine ⟨O, x, hb, d, ?_⟩
  cases e : slD x lo hi with
  | ok db => rw [e] at h; exact h
  | err c => exact absurd e sl_noerr
  | bad => rw [e] at h; exact h
theorem de_slA {a lo : Expr} {f g : Ev → R DB} {p2 pos : Pos} (hK : X.K = G.K) (ha : PE X a (rdE G W f)) (hb : PE X lo (rdE G W g)) :
    PE X (.Subscript a (.Slice (some lo) none none p2) pos) (rdE G W fun ρ => (f ρ).bind fun x => (intR (g ρ)).bind fun i => slD x.1 (some i) none) := by
  refine PE_imp (pe_slice (ok_sl hK) ha (po_some hb) po_none) fun σ H Q ⟨ρ, O, hb, hr, h⟩ => ⟨ρ, O, hb, hr, kE_bind hb h fun d v H1 _ s hb1 r h1 => ⟨ρ, O, hb1, hr.same s, ?_⟩⟩
  exact kE_int (R' := fun o H1 => rSlD G v o none H1 Q) hb1 h1 fun i H2 s2 hb2 h2 => sl_end hb2 ((r.den hb).same s2) h2
theorem de_slB {a hi : Expr} {f g : Ev → R DB} {p2 pos : Pos} (hK : X.K = G.K) (ha : PE X a (rdE G W f)) (hb : PE X hi (rdE G W g)) :
    PE X (.Subscript a (.Slice none (some hi) none p2) pos) (rdE G W fun ρ => (f ρ).bind fun x => (intR (g ρ)).bind fun i => slD x.1 none (some i)) := by
  refine PE_imp (pe_slice (ok_sl hK) ha po_none (po_some hb)) fun σ H Q ⟨ρ, O, hb, hr, h⟩ => ⟨ρ, O, hb, hr, kE_bind hb h fun d v H1 _ s hb1 r h1 => ⟨ρ, O, hb1, hr.same s, ?_⟩⟩
  exact kE_int (R' := fun o H1 => rSlD G v none o H1 Q) hb1 h1 fun i H2 s2 hb2 h2 => sl_end hb2 ((r.den hb).same s2) h2
theorem de_slC {a lo hi : Expr} {f g e : Ev → R DB} {p2 pos : Pos} (hK : X.K = G.K) (ha : PE X a (rdE G W f)) (hb : PE X lo (rdE G W g)) (hc : PE X hi (rdE G W e)) :
    PE X (.Subscript a (.Slice (some lo) (some hi) none p2) pos) (rdE G W fun ρ => (f ρ).bind fun x => (intR (g ρ)).bind fun i => (intR (e ρ)).bind fun j => slD x.1 (some i) (some j)) := by
  refine PE_imp (pe_slice (ok_sl hK) ha (po_some hb) (po_some hc)) fun σ H Q ⟨ρ, O, hb, hr, h⟩ => ⟨ρ, O, hb, hr, kE_bind hb h fun d v H1 _ s hb1 r h1 => ⟨ρ, O, hb1, hr.same s, ?_⟩⟩
  refine kE_int (R' := fun o H1 => tPart (rdE G W e) σ H1 fun u H3 => rSlD G v o u H3 Q) hb1 h1 fun i H2 s2 hb2 h2 => ?_
  exact ⟨ρ, O, hb2, hr.same (s.trans s2), kE_int (R' := fun o H1 => rSlD G v (some i) o H1 Q) hb2 h2 fun j H3 s3 hb3 h3 => sl_end hb3 (((r.den hb).same s2).same s3) h3⟩
end
end SS

set_option maxRecDepth 100000
set_option maxHeartbeats 4000000
/-! SSF: builtins and calls -/
namespace SS
open PySem PySem.Spec PyProof.Rows L2
theorem minL_le : ∀ (m : Int) (l : List Int), minL m l ≤ m ∧ (∀ y ∈ l, minL m l ≤ y) ∧ (minL m l = m ∨ minL m l ∈ l)
  | m, [] => ⟨Int.le_refl _, fun _ h => absurd h (by simp), .inl rfl⟩
  | m, x :: r => by
    obtain ⟨h1, h2, h3⟩ := minL_le (if x < m then x else m) r
    simp only [minL]
    have h1' : minL (if x < m then x else m) r ≤ m ∧ minL (if x < m then x else m) r ≤ x := by
      by_cases c : x < m
      · rw [if_pos c] at h1 ⊢; omega
      · rw [if_neg c] at h1 ⊢; omega
    refine ⟨h1'.1, fun y hy => ?_, ?_⟩
    · rcases List.mem_cons.mp hy with e | e
      · subst e; exact h1'.2
      · exact h2 y e
    · rcases h3 with h3 | h3
      · rw [h3]; split <;> simp
      · exact .inr (List.mem_cons_of_mem _ h3)
theorem maxL_ge : ∀ (m : Int) (l : List Int), m ≤ maxL m l ∧ (∀ y ∈ l, y ≤ maxL m l) ∧ (maxL m l = m ∨ maxL m l ∈ l)
  | m, [] => ⟨Int.le_refl _, fun _ h => absurd h (by simp), .inl rfl⟩
  | m, x :: r => by
    obtain ⟨h1, h2, h3⟩ := maxL_ge (if m < x then x else m) r
    simp only [maxL]
    have h1' : m ≤ maxL (if m < x then x else m) r ∧ x ≤ maxL (if m < x then x else m) r := by
      by_cases c : m < x
      · rw [if_pos c] at h1 ⊢; omega
      · rw [if_neg c] at h1 ⊢; omega
    refine ⟨h1'.1, fun y hy => ?_, ?_⟩
    · rcases List.mem_cons.mp hy with e | e
      · subst e; exact h1'.2
      · exact h2 y e
    · rcases h3 with h3 | h3
      · rw [h3]; split <;> simp
      · exact .inr (List.mem_cons_of_mem _ h3)
theorem insI_perm (x : Int) : ∀ l : List Int, (insI x l).Perm (x :: l)
  | [] => List.Perm.refl _
  | y :: r => by
    simp only [insI]
    split
    · exact List.Perm.refl _
    · exact ((insI_perm x r).cons y).trans (List.Perm.swap x y r)
theorem sortI_perm : ∀ l : List Int, (sortI l).Perm l
  | [] => List.Perm.refl _
  | x :: r => (insI_perm x (sortI r)).trans ((sortI_perm r).cons x)
theorem insI_sorted (x : Int) : ∀ {l : List Int}, l.Pairwise (· ≤ ·) → (insI x l).Pairwise (· ≤ ·)
  | [], _ => by simp [insI]
  | y :: r, h => by
    have h' := List.pairwise_cons.mp h
    simp only [insI]
    split
    · rename_i c
      refine List.pairwise_cons.mpr ⟨fun z hz => ?_, h⟩
      rcases List.mem_cons.mp hz with e | e
      · omega
      · have := h'.1 z e; omega
    · rename_i c
      refine List.pairwise_cons.mpr ⟨fun z hz => ?_, insI_sorted x h'.2⟩
      rcases List.mem_cons.mp ((insI_perm x r).mem_iff.mp hz) with e | e
      · omega
      · exact h'.1 z e
theorem sortI_sorted : ∀ l : List Int, (sortI l).Pairwise (· ≤ ·)
  | [] => .nil
  | x :: r => insI_sorted x (sortI_sorted r)

section
variable {G : Gb} {X : Cx} {W : WX}
def rPr (G : Gb) (p : Prim) : List V → Hp → VK → Prop := fun vs H Q => ∃ (O : Addr → Prop) (ds : List D), Bnd G O H ∧ DenL G H O ds vs ∧
    match prD p ds with | .ok db => ∀ v H', Same G H H' → Res G H H' O db v → Q v H' | _ => False
theorem ok_len (hK : X.K = G.K) : CallR X (.builtin "len") (rPr G .len) := by
  intro pins s σ H xs us Q I r h
  obtain ⟨O, ds, hb, dd, k⟩ := h
  cases dd with
  | nil => exact False.elim k
  | cons d1 d2 =>
    cases d2 with
    | cons _ _ => cases d1 <;> exact False.elim k
    | nil =>
      cases d1 with
      | @lst p ys es q n r1 =>
        refine call_len_seq pins s σ H _ us Q I r ⟨p, ys, rfl, .inl (.inl (.inl q)), ?_⟩
        rw [← r1.length]
        exact k _ _ (Same.refl _) (Res.of (.int _))
      | @tup p ys es _ hd qd r1 =>
        have q : SqT G.K _ p ys := tO_sq qd
        rw [← hK] at q
        refine call_len_seq pins s σ H _ us Q I r ⟨p, ys, rfl, .inr q, ?_⟩
        rw [← r1.length]
        exact k _ _ (Same.refl _) (Res.of (.int _))
      | @scr p ns q =>
        rw [← hK] at q
        refine call_len_seq pins s σ H _ us Q I r ⟨p, _, rfl, .inl (scr_sq q), ?_⟩
        rw [List.length_map]
        exact k _ _ (Same.refl _) (Res.of (.int _))
      | str z =>
        simp only [prD] at k
        by_cases hc : z.length ≤ szl
        · rw [decide_eq_true hc, okIf_true] at k
          exact call_len_str pins s σ H _ us Q I r ⟨z, rfl, szl_eq ▸ hc, k _ _ (Same.refl _) (Res.of (.int _))⟩
        · rw [decide_eq_false hc] at k
          exact False.elim k
      | _ => exact False.elim k
theorem ok_sum (hK : X.K = G.K) (hc : X.calm = true) : CallR X (.builtin "sum") (rPr G .sum) := by
  intro pins s σ H xs us Q I r h
  obtain ⟨O, ds, hb, dd, k⟩ := h
  cases dd with
  | nil => exact False.elim k
  | cons d1 d2 =>
    cases d2 with
    | cons _ _ => cases d1 <;> exact False.elim k
    | nil =>
      cases d1 with
      | @lst p ys es q n r1 =>
        simp only [prD] at k
        cases e : ints? es with
        | none => rw [e] at k; exact False.elim k
        | some ns =>
          rw [e] at k
          obtain ⟨e1, _⟩ := r1.ints e
          subst e1
          exact cr_sum hc pins s σ H _ us Q I r ⟨p, ns, rfl, .inl (.inl q), k _ _ (Same.refl _) (Res.of (.int _))⟩
      | @tup p ys es _ hd qd r1 =>
        have q : SqT G.K _ p ys := tO_sq qd
        rw [← hK] at q
        simp only [prD] at k
        cases e : ints? es with
        | none => rw [e] at k; exact False.elim k
        | some ns =>
          rw [e] at k
          obtain ⟨e1, _⟩ := r1.ints e
          subst e1
          exact cr_sumT hc pins s σ H _ us Q I r ⟨p, ns, rfl, q, k _ _ (Same.refl _) (Res.of (.int _))⟩
      | _ => exact False.elim k
theorem tups_len : ∀ {es : List D} {qs : List (List Int)}, tups? es = some qs → qs.length = es.length
  | [], _, h => by simp [tups?] at h; subst h; rfl
  | d :: r, _, h => by
    cases d with
    | tup xs =>
      simp only [tups?] at h
      obtain ⟨q, h1, h2⟩ := Option.bind_eq_some_iff.mp h
      simp only [Option.map_eq_some_iff] at h2
      obtain ⟨qs, h3, rfl⟩ := h2
      rw [List.length_cons, List.length_cons, tups_len h3]
    | _ => simp [tups?] at h
theorem tups_at : ∀ {es : List D} {qs : List (List Int)} {i : Nat} {d : D}, tups? es = some qs → es[i]? = some d → ∃ q, qs[i]? = some q ∧ ∃ xs, d = .tup xs ∧ ints? xs = some q
  | [], _, _, _, _, e => by simp at e
  | d :: r, _, i, x, h, e => by
    cases d with
    | tup xs =>
      simp only [tups?] at h
      obtain ⟨q, h1, h2⟩ := Option.bind_eq_some_iff.mp h
      simp only [Option.map_eq_some_iff] at h2
      obtain ⟨qs, h3, rfl⟩ := h2
      cases i with
      | zero => simp at e; subst e; exact ⟨q, rfl, xs, rfl, h1⟩
      | succ i =>
        obtain ⟨q', z1, z2⟩ := tups_at (i := i) h3 (by simpa using e)
        exact ⟨q', by simpa using z1, z2⟩
    | _ => simp [tups?] at h
theorem ints?_map : ∀ {xs : List D} {q : List Int}, ints? xs = some q → xs = q.map .int
  | [], _, h => by simp [ints?] at h; subst h; rfl
  | d :: r, _, h => by
    cases d with
    | int i =>
      simp only [ints?, Option.map_eq_some_iff] at h
      obtain ⟨q, h1, rfl⟩ := h
      rw [List.map_cons, ← ints?_map h1]
    | _ => simp [ints?] at h
theorem best_is (q0 : List Int) (qs : List (List Int)) : ∀ m : Nat, m ≤ qs.length →
    (q0 :: qs)[argBest (fun i j => HT.lexLt ((q0 :: qs).getD i []) ((q0 :: qs).getD j [])) m]? = some (minT q0 (qs.take m))
  | 0, _ => by simp [argBest, minT]
  | m + 1, h => by
    have ih := best_is q0 qs m (by omega)
    have lt : m < qs.length := by omega
    have e1 : (q0 :: qs).getD (m + 1) [] = qs[m] := by simp [lt]
    have e2 : (q0 :: qs).getD (argBest (fun i j => HT.lexLt ((q0 :: qs).getD i []) ((q0 :: qs).getD j [])) m) [] = minT q0 (qs.take m) := by
      rw [List.getD_eq_getElem?_getD, ih]; rfl
    have e3 : minT q0 (qs.take (m + 1)) = if HT.lexLt qs[m] (minT q0 (qs.take m)) = true then qs[m] else minT q0 (qs.take m) := by
      unfold minT
      rw [List.take_succ_eq_append_getElem lt, List.foldl_append]
      rfl
    rw [argBest, e1, e2, e3]
    by_cases c : HT.lexLt qs[m] (minT q0 (qs.take m)) = true
    · rw [if_pos c, if_pos c]
      simp [lt]
    · rw [if_neg c, if_neg c]
      exact ih
theorem ok_min (hK : X.K = G.K) (hu : X.A.units + 1 < cLine) (hc : X.calm = true) : CallR X (.builtin "min") (rPr G .min) := by
  intro pins s σ H xs us Q I r h
  obtain ⟨O, ds, hb, dd, k⟩ := h
  cases dd with
  | nil => exact False.elim k
  | cons d1 d2 =>
    cases d2 with
    | cons d2 d3 =>
      cases d3 with
      | cons _ _ => cases d1 <;> cases d2 <;> exact False.elim k
      | nil =>
        cases d1 with
        | int i =>
          cases d2 with
          | int j => exact call_min2 hc pins s σ H _ us Q I r ⟨i, j, rfl, k _ _ (Same.refl _) (Res.of (.int _))⟩
          | _ => exact False.elim k
        | _ => exact False.elim k
    | nil =>
      cases d1 with
      | @lst p ys es q n r1 =>
        simp only [prD] at k
        cases e : ints? es with
        | none =>
          rw [e] at k
          simp only at k
          cases e2 : tups? es with
          | none => rw [e2] at k; exact False.elim k
          | some qs =>
            rw [e2] at k
            cases qs with
            | nil => exact False.elim k
            | cons q0 qs =>
              have len := tups_len e2
              have rl := r1.length
              refine cr_minQ hu hc pins s σ H _ us Q I r ⟨p, ys, fun i => (q0 :: qs).getD i [], rfl, .inl (.inl q), by rw [← rl, ← len]; simp, fun i x hx => ?_, fun v hv => ?_⟩
              · obtain ⟨d, d1, d2⟩ := r1.get' hx
                obtain ⟨z, z1, xs', rfl, z2⟩ := tups_at e2 d1
                cases d2 with
                | @tup w zs _ _ wd w1 w2 =>
                  obtain ⟨w3, _⟩ := w2.ints z2
                  refine ⟨w, rfl, ?_⟩
                  have : (q0 :: qs).getD i [] = z := by rw [List.getD_eq_getElem?_getD, z1]; rfl
                  show SqT X.K H w (((q0 :: qs).getD i []).map V.int)
                  rw [this, ← w3]; exact tO_sq w1
              · obtain ⟨d, d1, d2⟩ := r1.get' hv
                obtain ⟨z, z1, xs', rfl, z2⟩ := tups_at e2 d1
                have hb := best_is q0 qs (ys.length - 1) (by rw [← rl, ← len]; simp)
                rw [List.take_of_length_le (by rw [← rl, ← len]; simp)] at hb
                rw [z1] at hb
                have hz := Option.some.inj hb
                have z3 := ints?_map z2
                refine k v H (Same.refl _) (Res.of ?_)
                show Den G H O (.tup ((minT q0 qs).map D.int)) v
                rw [← hz, ← z3]
                exact d2
        | some ns =>
          rw [e] at k
          cases ns with
          | nil => exact False.elim k
          | cons a l =>
            obtain ⟨e1, _⟩ := r1.ints e
            subst e1
            refine cr_min hc pins s σ H _ us Q I r ⟨p, a :: l, rfl, .inl (.inl q), by simp, fun m hm hle => ?_⟩
            obtain ⟨h1, h2, h3⟩ := minL_le a l
            have em : m = minL a l := by
              have g1 : minL a l ≤ m := by
                rcases List.mem_cons.mp hm with z | z
                · omega
                · exact h2 m z
              have g2 : m ≤ minL a l := hle _ (by
                rcases h3 with z | z
                · rw [z]; exact List.mem_cons_self
                · exact List.mem_cons_of_mem _ z)
              omega
            rw [em]
            exact k _ _ (Same.refl _) (Res.of (.int _))
      | @tup p ys es _ hd qd r1 =>
        have q : SqT G.K _ p ys := tO_sq qd
        rw [← hK] at q
        simp only [prD] at k
        cases e : ints? es with
        | none => rw [e] at k; exact False.elim k
        | some ns =>
          rw [e] at k
          cases ns with
          | nil => exact False.elim k
          | cons a l =>
            obtain ⟨e1, _⟩ := r1.ints e
            subst e1
            refine cr_mmT false hc pins s σ H _ us Q I r ⟨p, a :: l, rfl, q, by simp, fun m hm hle => ?_⟩
            obtain ⟨h1, h2, h3⟩ := minL_le a l
            have em : m = minL a l := by
              have z1 := hle (minL a l) (by
                rcases h3 with z | z
                · rw [z]; exact List.mem_cons_self
                · exact List.mem_cons_of_mem _ z)
              simp only [Bool.false_eq_true, ↓reduceIte] at z1
              rcases List.mem_cons.mp hm with z | z
              · omega
              · have := h2 m z; omega
            rw [em]
            exact k _ _ (Same.refl _) (Res.of (.int _))
      | _ => exact False.elim k
theorem ok_max (hK : X.K = G.K) (hc : X.calm = true) : CallR X (.builtin "max") (rPr G .max) := by
  intro pins s σ H xs us Q I r h
  obtain ⟨O, ds, hb, dd, k⟩ := h
  cases dd with
  | nil => exact False.elim k
  | cons d1 d2 =>
    cases d2 with
    | cons d2 d3 =>
      cases d3 with
      | cons _ _ => cases d1 <;> cases d2 <;> exact False.elim k
      | nil =>
        cases d1 with
        | int i =>
          cases d2 with
          | int j => exact call_max2 hc pins s σ H _ us Q I r ⟨i, j, rfl, k _ _ (Same.refl _) (Res.of (.int _))⟩
          | _ => exact False.elim k
        | _ => exact False.elim k
    | nil =>
      cases d1 with
      | @lst p ys es q n r1 =>
        simp only [prD] at k
        cases e : ints? es with
        | none => rw [e] at k; exact False.elim k
        | some ns =>
          rw [e] at k
          cases ns with
          | nil => exact False.elim k
          | cons a l =>
            obtain ⟨e1, _⟩ := r1.ints e
            subst e1
            refine cr_max hc pins s σ H _ us Q I r ⟨p, a :: l, rfl, .inl (.inl q), by simp, fun m hm hle => ?_⟩
            obtain ⟨h1, h2, h3⟩ := maxL_ge a l
            have em : m = maxL a l := by
              have g1 : m ≤ maxL a l := by
                rcases List.mem_cons.mp hm with z | z
                · omega
                · exact h2 m z
              have g2 : maxL a l ≤ m := hle _ (by
                rcases h3 with z | z
                · rw [z]; exact List.mem_cons_self
                · exact List.mem_cons_of_mem _ z)
              omega
            rw [em]
            exact k _ _ (Same.refl _) (Res.of (.int _))
      | @tup p ys es _ hd qd r1 =>
        have q : SqT G.K _ p ys := tO_sq qd
        rw [← hK] at q
        simp only [prD] at k
        cases e : ints? es with
        | none => rw [e] at k; exact False.elim k
        | some ns =>
          rw [e] at k
          cases ns with
          | nil => exact False.elim k
          | cons a l =>
            obtain ⟨e1, _⟩ := r1.ints e
            subst e1
            refine cr_mmT true hc pins s σ H _ us Q I r ⟨p, a :: l, rfl, q, by simp, fun m hm hle => ?_⟩
            obtain ⟨h1, h2, h3⟩ := maxL_ge a l
            have em : m = maxL a l := by
              have z1 := hle (maxL a l) (by
                rcases h3 with z | z
                · rw [z]; exact List.mem_cons_self
                · exact List.mem_cons_of_mem _ z)
              simp only [Bool.false_eq_true, ↓reduceIte] at z1
              rcases List.mem_cons.mp hm with z | z
              · omega
              · have := h2 m z; omega
            rw [em]
            exact k _ _ (Same.refl _) (Res.of (.int _))
      | _ => exact False.elim k
theorem ok_all (hK : X.K = G.K) (hc : X.calm = true) : CallR X (.builtin "all") (rPr G .all) := by
  intro pins s σ H xs us Q I r h
  obtain ⟨O, ds, hb, dd, k⟩ := h
  cases dd with
  | nil => exact False.elim k
  | cons d1 d2 =>
    cases d2 with
    | cons _ _ => cases d1 <;> exact False.elim k
    | nil =>
      cases d1 with
      | @lst p ys es q n r1 =>
        simp only [prD] at k
        cases e : bls? es with
        | none => rw [e] at k; exact False.elim k
        | some ns =>
          rw [e] at k
          have e1 := r1.bls e
          subst e1
          exact cr_all hc pins s σ H _ us Q I r ⟨p, ns, rfl, .inl (.inl q), k _ _ (Same.refl _) (Res.of (.bl _))⟩
      | _ => exact False.elim k
theorem ok_any (hK : X.K = G.K) (hc : X.calm = true) : CallR X (.builtin "any") (rPr G .any) := by
  intro pins s σ H xs us Q I r h
  obtain ⟨O, ds, hb, dd, k⟩ := h
  cases dd with
  | nil => exact False.elim k
  | cons d1 d2 =>
    cases d2 with
    | cons _ _ => cases d1 <;> exact False.elim k
    | nil =>
      cases d1 with
      | @lst p ys es q n r1 =>
        simp only [prD] at k
        cases e : bls? es with
        | none => rw [e] at k; exact False.elim k
        | some ns =>
          rw [e] at k
          have e1 := r1.bls e
          subst e1
          exact cr_any hc pins s σ H _ us Q I r ⟨p, ns, rfl, .inl (.inl q), k _ _ (Same.refl _) (Res.of (.bl _))⟩
      | _ => exact False.elim k
theorem ok_sorted (hK : X.K = G.K) : CallR X (.builtin "sorted") (rPr G .sorted) := by
  intro pins s σ H xs us Q I r h
  obtain ⟨O, ds, hb, dd, k⟩ := h
  cases dd with
  | nil => exact False.elim k
  | cons d1 d2 =>
    cases d2 with
    | cons _ _ => cases d1 <;> exact False.elim k
    | nil =>
      cases d1 with
      | @lst p ys es q n r1 =>
        simp only [prD] at k
        cases e : ints? es with
        | none => rw [e] at k; exact False.elim k
        | some ns =>
          rw [e] at k
          obtain ⟨e1, _⟩ := r1.ints e
          subst e1
          refine cr_sortedI pins s σ H _ us Q I r ⟨p, ns, rfl, .inl (.inl q), fun ms z h1 h2 hz => ?_⟩
          have em : ms = sortI ns := List.Perm.eq_of_pairwise (fun a b _ _ h1 h2 => Int.le_antisymm h1 h2) h2 (sortI_sorted ns) (h1.trans (sortI_perm ns).symm)
          rw [em]
          exact k _ _ (same_new hz) (Res.mk hz hb (DenL.ofInts _))
      | @tup p ys es _ hd qd r1 =>
        have q : SqT G.K _ p ys := tO_sq qd
        rw [← hK] at q
        simp only [prD] at k
        cases e : ints? es with
        | none => rw [e] at k; exact False.elim k
        | some ns =>
          rw [e] at k
          obtain ⟨e1, _⟩ := r1.ints e
          subst e1
          refine cr_sortT1 pins s σ H _ us Q I r ⟨p, ns, rfl, q, fun ms z h1 h2 hz => ?_⟩
          have em : ms = sortI ns := List.Perm.eq_of_pairwise (fun a b _ _ h1 h2 => Int.le_antisymm h1 h2) h2 (sortI_sorted ns) (h1.trans (sortI_perm ns).symm)
          rw [em]
          exact k _ _ (same_new hz) (Res.mk hz hb (DenL.ofInts _))
      | _ => exact False.elim k
theorem ok_tuple (hK : X.K = G.K) : CallR X (.type "tuple") (rPr G .tuple) := by
  intro pins s σ H xs us Q I r h
  obtain ⟨O, ds, hb, dd, k⟩ := h
  cases dd with
  | nil => exact False.elim k
  | cons d1 d2 =>
    cases d2 with
    | cons _ _ => cases d1 <;> exact False.elim k
    | nil =>
      cases d1 with
      | @lst p ys es q n r1 =>
        exact call_tupleP pins s σ H _ us Q I r ⟨p, ys, rfl, .inl ⟨.inl (.inl q), fzD es, fun l o hl hn => k _ _ (same_new hl) (Res.of (Den.tupNew hn hl r1))⟩⟩
      | @tup p ys es _ hd qd r1 =>
        have q : SqT G.K _ p ys := tO_sq qd
        exact call_tupleP pins s σ H _ us Q I r ⟨p, ys, rfl, .inr ⟨hK ▸ q, k _ _ (Same.refl _) (Res.of (.tup hd qd r1))⟩⟩
      | _ => exact False.elim k
theorem ok_list (hK : X.K = G.K) : CallR X (.type "list") (rPr G .list) := by
  intro pins s σ H xs us Q I r h
  obtain ⟨O, ds, hb, dd, k⟩ := h
  cases dd with
  | nil => exact False.elim k
  | cons d1 d2 =>
    cases d2 with
    | cons _ _ => cases d1 <;> exact False.elim k
    | nil =>
      cases d1 with
      | @lst p ys es q n r1 =>
        exact call_list_of pins s σ H _ us Q I r ⟨p, ys, rfl, .inl (.inl (.inl q)), fun l hl => k _ _ (same_new hl) (Res.mk hl hb r1)⟩
      | @tup p ys es _ hd qd r1 =>
        have q : SqT G.K _ p ys := tO_sq qd
        exact call_list_of pins s σ H _ us Q I r ⟨p, ys, rfl, .inr (hK ▸ q), fun l hl => k _ _ (same_new hl) (Res.mk hl hb r1)⟩
      | _ => exact False.elim k
theorem prs_den {H : Hp} {O : Addr → Prop} : ∀ {es : List D} {ys : List V} {q : List Str × List D}, prs? es = some q → DenL G H O es ys →
    ∃ (as : List Addr) (ws : List V), ys = as.map V.ref ∧ Paired (fun p (kv : Key × V) => SqT G.K H p [kV kv.1, kv.2]) as (kvs q.1 ws) ∧ DenL G H O q.2 ws ∧ q.1.length = q.2.length
  | [], ys, q, h, r => by
    simp only [prs?, Option.some.injEq] at h
    subst h
    cases r
    exact ⟨[], [], rfl, .nil, .nil, rfl⟩
  | d :: es, _, q, h, r => by
    cases r with
    | cons r1 r2 =>
      unfold prs? at h
      split at h
      · rename_i e; cases e
      · rename_i x e r' eq
        cases eq
        cases e2 : prs? es with
        | none => rw [e2] at h; cases h
        | some q' =>
          rw [e2] at h
          simp only [Option.map_some, Option.some.injEq] at h
          subst h
          obtain ⟨as, ws, h1, h2, h3, h4⟩ := prs_den e2 r2
          cases r1 with
          | tup hd qd rr =>
            cases rr with
            | cons ra rb =>
              cases rb with
              | cons rb rc =>
                cases rc
                cases ra
                have sq := tO_sq (K := G.K) qd
                exact ⟨_ :: as, _ :: ws, by rw [h1]; rfl, .cons sq h2, .cons rb h3, by simp only [List.length_cons, h4]⟩
      · cases h
theorem merge_nodup : ∀ {ks : List Str} {ws : List V} {acc : List (Key × V)}, ks.Nodup → ks.length = ws.length → (∀ k ∈ ks, ∀ p ∈ acc, p.1 ≠ Sum.inr k) → mergeK acc (kvs ks ws) = acc ++ kvs ks ws
  | [], ws, acc, _, _, _ => by simp [kvs, mergeK]
  | k :: ks, [], acc, _, h, _ => by simp at h
  | k :: ks, w :: ws, acc, hn, h, hk => by
    rw [kvs_cons]
    show mergeK (L2.putK acc (.inr k) w) (kvs ks ws) = _
    have h1 : L2.putK acc (Sum.inr k : Key) w = acc ++ [(.inr k, w)] := by
      unfold L2.putK
      rw [if_neg]
      intro z
      obtain ⟨p, hp, e⟩ := List.any_eq_true.mp z
      exact hk k List.mem_cons_self p hp (of_decide_eq_true e)
    rw [h1, merge_nodup (List.nodup_cons.mp hn).2 (by simpa using h) fun k' hk' p hp => ?_]
    · simp
    · rcases List.mem_append.mp hp with z | z
      · exact hk k' (List.mem_cons_of_mem _ hk') p z
      · have : p = (Sum.inr k, w) := by simpa using z
        subst this
        intro e
        exact (List.nodup_cons.mp hn).1 (by rw [Sum.inr.inj e]; exact hk')
theorem Res.mkS {H : Hp} {O : Addr → Prop} {p : Addr} {ks : List Str} {ds : List D} {vs : List V} (hp : H p = none) (hl : ks.length = ds.length) (h : DenL G H O ds vs) : Res G H (upd H p (.dK (kvs ks vs))) O (.dcs ks ds, true) (.ref p) := by
  unfold Res
  rw [if_pos rfl]
  refine ⟨p, _, ds, vs, .dcs ks ds vs hl, rfl, hp, upd_same, h.tr (Tr.same (G := G) (same_new hp) fun a z => ?_)⟩
  rcases z with z | z
  · exact .inl z
  · exact .inr (z ▸ hp)
theorem ok_dict (hK : X.K = G.K) (hc : X.calm = true) : CallR X (.type "dict") (rPr G .dict) := by
  intro pins s σ H xs us Q I r h
  obtain ⟨O, ds, hb, dd, k⟩ := h
  cases dd with
  | nil => exact False.elim k
  | cons d1 d2 =>
    cases d2 with
    | cons _ _ => cases d1 <;> exact False.elim k
    | nil =>
      have go : ∀ (p : Addr) (ys : List V) (es : List D), PlV X.K H p ys → DenL G H O es ys → (match dofP es with | .ok db => ∀ v H', Same G H H' → Res G H H' O db v → Q v H' | _ => False) → Vals [V.ref p] us →
          wpAny (model X.prog X.w) X.A (PySem.call (.type "dict") us) (EP X pins σ Q) X.xe s := by
        intro p ys es hp r1 k r
        unfold dofP at k
        cases e : prs? es with
        | none => rw [e] at k; exact False.elim k
        | some q =>
          rw [e] at k
          dsimp only at k
          by_cases hn : q.1.Nodup
          · rw [decide_eq_true hn, okIf_true] at k
            obtain ⟨as, ws, e1, e2, e3, e4⟩ := prs_den e r1
            subst e1
            refine call_dictB hc pins s σ H _ us Q I r ⟨p, as, kvs q.1 ws, rfl, hp, hK ▸ e2, fun z hz => ?_⟩
            rw [merge_nodup hn (by rw [e4, e3.length]) (fun _ _ _ hp => by simp at hp), List.nil_append]
            exact k _ _ (same_new hz) (Res.mkS hz e4 e3)
          · rw [decide_eq_false hn] at k
            exact False.elim k
      cases d1 with
      | @lst p ys es q n r1 => exact go p ys es (.inl (.inl (.inl q))) r1 k r
      | @tup p ys es o hd qd r1 =>
        have k' : match dofP es with | .ok db => ∀ v H', Same G H H' → Res G H H' O db v → Q v H' | _ => False := k
        cases hf : fzD es with
        | true =>
          rw [hf] at qd
          exact go p ys es (.inr ⟨o, hd, qd⟩) r1 k' r
        | false =>
          unfold dofP at k'
          unfold fzD at hf
          cases e : prs? es with
          | none => rw [e] at k'; exact False.elim k'
          | some q => rw [e] at hf; cases hf
      | _ => exact False.elim k
theorem ok_int : CallR X (.type "int") (rPr G .int) := by
  intro pins s σ H xs us Q I r h
  obtain ⟨O, ds, hb, dd, k⟩ := h
  cases dd with
  | nil => exact False.elim k
  | cons d1 d2 =>
    cases d2 with
    | cons _ _ => cases d1 <;> exact False.elim k
    | nil =>
      cases d1 with
      | int i => exact call_int1 pins s σ H _ us Q I r (.inl ⟨i, rfl, k _ _ (Same.refl _) (Res.of (.int _))⟩)
      | bl b => exact call_int1 pins s σ H _ us Q I r (.inr ⟨b, rfl, k _ _ (Same.refl _) (Res.of (.int _))⟩)
      | _ => exact False.elim k
theorem pr_noerr {p : Prim} {ds : List D} {c : Nat} : prD p ds ≠ .err c := by
  unfold prD
  split <;> (try unfold dofD) <;> (try split) <;> (try unfold dofP) <;> (try split) <;> (try unfold okIf) <;> (try split) <;> (try split) <;> simp
theorem rd_pr {p : Prim} {f : Ev → R (List D)} {σ : Sg} {H : Hp} {Q : VK} (h : rdE G W (fun ρ => (f ρ).bind fun ds => prD p ds) σ H Q) : tCB (rPr G p) (rdA G W f) σ H Q := by
  obtain ⟨ρ, O, hb, hr, h⟩ := h
  refine ⟨ρ, O, hb, hr, kA_bind hb h fun ds vs H1 _ s hb1 r h1 => ⟨O, ds, hb1, r, ?_⟩⟩
  cases e : prD p ds with
  | ok db => rw [e] at h1; exact h1
  | err c => exact absurd e pr_noerr
  | bad => rw [e] at h1; exact h1
/-- isinstance(x, T) -/
def tyS : Ty → String
  | .int => "int" | .bool => "bool" | .str => "str" | .tuple => "tuple" | .list => "list"
def rIsT (G : Gb) (t : Ty) : List V → Hp → VK → Prop := fun vs H Q => ∃ (O : Addr → Prop) (d : D) (v : V), vs = [v, .ty (tyS t)] ∧ Bnd G O H ∧ Den G H O d v ∧
  match tyD t d with | some b => Q (.bl b) H | none => False
theorem tyx_tup {K : PySem.W.Frag} {H : Hp} {a : Addr} {xs : List V} (h : SqT K H a xs) : TyX K H (.ref a) (.type "tuple") := by
  rcases h with (h | ⟨o, h⟩) | ⟨o, its, n, h1, h2, _⟩
  · exact .base (.tup h)
  · exact .fTuple h
  · exact .kTuple h1 h2
theorem ok_isi (hK : X.K = G.K) (t : Ty) : CallR X (.builtin "isinstance") (rIsT G t) := by
  intro pins s σ H xs us Q I r h
  obtain ⟨O, d, v, rfl, hb, dd, k⟩ := h
  have go : ∀ (T : String) (b : Bool), TyX X.K H v (.type T) → kitB T (tyS t) = some b → tyD t d = some b → wpAny (model X.prog X.w) X.A (PySem.call (.builtin "isinstance") us) (EP X pins σ Q) X.xe s := by
    intro T b h1 h2 h3
    rw [h3] at k
    exact call_isi pins s σ H _ us Q I r ⟨v, .ty (tyS t), .type T, .type (tyS t), b, rfl, .ty _, h1, kit_ty h2, k⟩
  cases dd with
  | non => cases t <;> exact go "NoneType" false (.base .non) (by decide +kernel) rfl
  | bl b => cases t <;> first | exact go "bool" true (.base (.bl b)) (by decide +kernel) rfl | exact go "bool" false (.base (.bl b)) (by decide +kernel) rfl
  | int i => cases t <;> first | exact go "int" true (.base (.int i)) (by decide +kernel) rfl | exact go "int" false (.base (.int i)) (by decide +kernel) rfl
  | str i => cases t <;> first | exact go "str" true (.base (.str i)) (by decide +kernel) rfl | exact go "str" false (.base (.str i)) (by decide +kernel) rfl
  | tup hd qd r =>
    have q : SqT G.K _ _ _ := tO_sq qd
    cases t <;> first | exact go "tuple" true (tyx_tup (hK ▸ q)) (by decide +kernel) rfl | exact go "tuple" false (tyx_tup (hK ▸ q)) (by decide +kernel) rfl
  | lst q n r => cases t <;> first | exact go "list" true (.base (.lst q)) (by decide +kernel) rfl | exact go "list" false (.base (.lst q)) (by decide +kernel) rfl
  | fn i => cases t <;> exact False.elim k
  | scr q => cases t <;> exact False.elim k
  | dct q _ n r => cases t <;> exact False.elim k
  | dcs q _ n r => cases t <;> exact False.elim k

/-! ### calls of the program's own functions -/
def spOf (G : Gb) (C : Orc) (i : Nat) : Sp := fun vs H Q E => vs.length = (G.ps i).length ∧ ∃ (O : Addr → Prop) (ds : List D), Bnd G O H ∧ DenL G H O ds vs ∧
  match C i ds with
  | .ok db => ∀ v H', Same G H H' → Res G H H' O db v → Q v H'
  | .err c => ∀ H', Same G H H' → E (.ref (G.ca c)) none H'
  | .bad => False
structure FOk (G : Gb) (C : Orc) (k i : Nat) : Prop where
  ok : FnOk G.P G.w G.K G.mg G.base (L2.CX G.P G.w) k (G.fa i) (G.fd i) (G.ps i) (spOf G C i)
  bind : Binds G.K (G.fd i) (G.ps i) []
  keep : PySem.W.keepIn G.K (.ref (G.fa i)) = true
  ar : ∀ ds, C i ds ≠ .bad → ds.length = (G.ps i).length
/-- the context is the ground's -/
structure Gnd (G : Gb) (X : Cx) : Prop where
  prog : X.prog = G.P
  w : X.w = G.w
  K : X.K = G.K
  mg : X.mg = G.mg
  base : X.base = G.base
theorem FOk.at {C : Orc} {k i : Nat} (F : FOk G C k i) (g : Gnd G X) : FnOk X.prog X.w X.K X.mg X.base (L2.CX X.prog X.w) k (G.fa i) (G.fd i) (G.ps i) (spOf G C i) := by
  rw [g.prog, g.w, g.K, g.mg, g.base]
  exact F.ok
theorem rd_call {C : Orc} {k i : Nat} (F : FOk G C k i) {f : Ev → R (List D)} {σ : Sg} {H : Hp} {Q : VK} (h : rdE G W (fun ρ => (f ρ).bind fun ds => C i ds) σ H Q) :
    rdA G W f σ H fun vs H1 => spOf G C i vs H1 Q (WE W σ) := by
  obtain ⟨ρ, O, hb, hr, h⟩ := h
  refine ⟨ρ, O, hb, hr, kA_bind hb h fun ds vs H1 _ s hb1 r h1 => ⟨?_, O, ds, hb1, r, ?_⟩⟩
  · rw [← r.length]
    exact F.ar ds fun e => by rw [e] at h1; exact h1
  · cases e : C i ds with
    | ok db => rw [e] at h1; exact h1
    | err c => rw [e] at h1; exact h1
    | bad => rw [e] at h1; exact h1
theorem de_call {C : Orc} {k i : Nat} {x : Str} {p pos : Pos} {e : Expr} {es : List Expr} {f : Ev → R (List D)} (g : Gnd G X) (tk : Takes X W) (F : FOk G C k i) (hr : Room k X.A) (hg : Gl X x) (hm : G.mg x = some (.ref (G.fa i)))
    (ha : PA X (e :: es) (rdA G W f)) (hdb : (x == ("__debug__" : Str)) = false) (he : starEach (e :: es) X.env = (false, eval e X.env) :: starEach es X.env) (hpl : (backTo pos (starEach es X.env)).any (·.1) = false) :
    PE X (.Call (.Name x p) (e :: es) [] pos) (rdE G W fun ρ => (f ρ).bind fun ds => C i ds) :=
  PE_imp (pe_callS (F.at g) hr hg (by rw [g.mg]; exact hm) (by rw [g.K]; exact F.keep) (by rw [g.K]; exact F.bind) (fun σ => passAt tk σ) ha hdb he hpl) fun σ H Q h => rd_call F h
theorem de_call0 {C : Orc} {k i : Nat} {x : Str} {p pos : Pos} (g : Gnd G X) (tk : Takes X W) (F : FOk G C k i) (hr : Room k X.A) (hg : Gl X x) (hm : G.mg x = some (.ref (G.fa i)))
    (hdb : (x == ("__debug__" : Str)) = false) : PE X (.Call (.Name x p) [] [] pos) (rdE G W fun ρ => (R.ok []).bind fun ds => C i ds) := by
  refine ⟨fun pins s σ H Q I h => ?_⟩
  have h' := rd_call F h
  obtain ⟨ρ, O, hb, hr', h'⟩ := h'
  have hs := h' [] H (Same.refl _) .nil
  refine wpAny_Call_Name_kw (ld_glob I hg (by rw [g.mg]; exact hm) ?_ hdb)
  exact PySem.W.callWith_K0 I.kIn (by rw [g.K]; exact F.keep) (run_fnS (us := []) (E := WE W) (F.at g) hr (by rw [g.K]; exact F.bind) (passAt tk σ) I .nil hs)
/-- a[i](..): a function out of a list -/
theorem eval_call_sub (a b : Expr) (p : Pos) (args : List Expr) (pos : Pos) (env : PySem.Env) : eval (.Call (.Subscript a b p) args [] pos) env = (do
    callWith pos (← eval (.Subscript a b p) env) [] (backTo pos (starEach args env)) (backToKw pos (keywordEach [] env))) := rfl
theorem de_callv {C : Orc} {k : Nat} {a b : Expr} {p pos : Pos} {e : Expr} {es : List Expr} {f : Ev → R (List D)} {h : Ev → R DB} (g : Gnd G X) (tk : Takes X W) (F : ∀ i, FOk G C k i) (hr : Room k X.A)
    (hf : PE X (.Subscript a b p) (rdE G W h)) (ha : PA X (e :: es) (rdA G W f)) (he : starEach (e :: es) X.env = (false, eval e X.env) :: starEach es X.env) (hpl : (backTo pos (starEach es X.env)).any (·.1) = false) :
    PE X (.Call (.Subscript a b p) (e :: es) [] pos) (rdE G W fun ρ => (h ρ).bind fun y => match y.1 with | .fn i => (f ρ).bind fun ds => C i ds | _ => .bad) := by
  refine ⟨fun pins s σ H Q I hq => ?_⟩
  rw [eval_call_sub]
  obtain ⟨ρ, O, hb, hr', hq⟩ := hq
  refine wpAny_bind (thn (hf.run pins s σ H (fun v H1 => ∃ i, v = .ref (G.fa i) ∧ rdE G W (fun ρ => (f ρ).bind fun ds => C i ds) σ H1 Q) I ⟨ρ, O, hb, hr', kE_bind hb hq fun d v H1 _ s hb1 r h1 => ?_⟩) fun u s1 ⟨v, H1, I1, r1, i, ev, q1⟩ => ?_)
  · have r' := r.den hb
    obtain ⟨d1, d2⟩ := d
    cases r' with
    | fn i => exact ⟨i, rfl, ρ, O, hb1, hr'.same s, h1⟩
    | _ => exact False.elim h1
  · subst ev
    cases r1
    have q2 := rd_call (F i) q1
    refine PySem.W.callWith_K (h₀ := X.base) I1.ok.mod.kin (by rw [g.K]; exact (F i).keep) (thn (ha.run pos pins s1 σ H1 _ I1 q2) fun us s2 ⟨vs, H2, I2, r, q⟩ => ⟨I2.kIn, ?_⟩) he hpl
    exact run_fnS ((F i).at g) hr (by rw [g.K]; exact (F i).bind) (passAt tk σ) I2 r q
end
end SS

set_option maxRecDepth 100000
set_option maxHeartbeats 4000000
/-! SSU: enumerate of a tuple -/
namespace SS
open PySem PySem.Spec PyProof.Rows L2
section
open Sem (wp)
theorem en_new {v : Value} {o : Obj} {Pr : Heap → Prop} (B : Begins v o Pr) :
    Meets (Builtin.«enumerate.__new__» ⟨[.type "enumerate", v], []⟩) fun _ R s => Pr s.heap ∧
      R (.ok (.ret (.ref (s.heap.push o).objs.size))) { s with heap := (s.heap.push o).push { cls := .type "enumerate", data := .fields #[.none, .bool false, .ref s.heap.objs.size, rawInt 0, .none, .none] } } :=
  .of_wp fun prog w A R s hh => by
    obtain ⟨hp, gl, dd, tk, os⟩ := s
    obtain ⟨hB, fin⟩ := hh
    have hsub := sub_enumerate
    have begin1 : ∀ {A1 : Around} {E1 : Value → Shared → Prop} {Q1 : Value → Shared → Prop}, Q1 (.ref hp.objs.size) ⟨hp.push o, gl, dd, tk, os⟩ → wpAny (model prog w) A1 (pyIter v) Q1 E1 ⟨hp, gl, dd, tk, os⟩ :=
      fun z => B.iter prog w _ _ ⟨hp, gl, dd, tk, os⟩ _ hB z
    wp_walk using begin1
    refine wpAny_stack_any fun stk => wpAny_pure ?_
    split
    · rename_i cc _ _ _ _ _
      cases (cc == Value.type "enumerate") <;> (wp_walk using begin1; exact ⟨_, rfl, fin⟩)
    · wp_walk using begin1
      exact ⟨_, rfl, fin⟩
theorem en_call {prog : Program} {w : World} {A : Around} {E : Value → Shared → Prop} {s : Shared} {v : Value} {o : Obj} {Pr : Heap → Prop} {Q : Value → Shared → Prop} (B : Begins v o Pr) (hB : Pr s.heap)
    (fin : ∀ h', IsEnum h' (s.heap.objs.size + 1) s.heap.objs.size 0 .none → h'.get? s.heap.objs.size = some o →
      (∀ c ob, s.heap.get? c = some ob → h'.get? c = some ob) → Q (.ref (s.heap.objs.size + 1)) { s with heap := h' }) :
    wpAny (model prog w) A (PySem.call (.type "enumerate") [v]) Q E s := by
  refine callType_new F.called_enumerate (by decide) (F.typeCall_enumerate_1 _) (F.newCall_enumerate_1 _) (fun ob => F.args_object_init_2 ob _) F.entry_enumerate_new (en_new B) ⟨hB, ?_⟩
  have hz : (s.heap.push o).objs.size = s.heap.objs.size + 1 := Heap.size_push ..
  show _ ∧ _
  rw [hz]
  have he := Heap.get?_push_size (s.heap.push o) (o := { cls := .type "enumerate", data := .fields #[.none, .bool false, .ref s.heap.objs.size, rawInt 0, .none, .none] }) rfl
  rw [hz] at he
  exact ⟨⟨_, he, rfl⟩, fin _ he (Heap.get?_push_of_some _ (Heap.get?_push_size _ B.free)) fun c ob x => Heap.get?_push_of_some _ (Heap.get?_push_of_some _ x)⟩
theorem en_end {prog : Program} {w : World} {A : Around} {E : Value → Shared → Prop} {s : Shared} {e it a : Addr} {i : Nat} {us : Array Value} {old : Value} {Q : Option Value → Shared → Prop} (hd : A.handled = none)
    (he : IsEnum s.heap e it i old) (hit : s.heap.IsTupleIter it a i) (ht : s.heap.IsTuple a us) (hx : us[i]? = none)
    (fin : ∀ h', Heap.ExtBut it s.heap h' → Q none { s with heap := h' }) : wpAny (model prog w) A (pyNext (.ref e)) Q E s := by
  have ty : s.TypeIs (.ref e) "enumerate" := ⟨_, he, rfl⟩
  unfold pyNext
  refine wpAny_bind (wpAny_attempt (wpAny_callSpecial?_slot (name := Str.ofString "__next__") ty F.slot_enumerate_next
    (wpAny_call_entry F.slot_enumerate_next ty F.entry_enumerate_next ?_ (F.args_enumerate_next_1 _))))
  show wpAny _ _ (field (.ref e) 2 >>= _) _ _ s
  refine wpAny_bind (wpAny_field he rfl (x := .ref it) rfl ?_)
  refine wpAny_bind (wpAny_nextOf_tuple_end hd hit ht hx fun h' x eb hx' => ?_)
  obtain ⟨ob, ho, hc⟩ := hx'
  exact wpAny_bind (wpAny_isInstance (T := "StopIteration") (b := true) ⟨ob, ho, hc⟩ isSubtype_stop (wpAny_pure (fin _ eb)))
end
/-- the tuple at a, each item beside its place -/
def ItT (K : PySem.W.Frag) (a : Addr) : It :=
  { go := fun i H => ∃ (ts : List V) (y : V), SqT K H a ts ∧ ts[i]? = some y
    yld := fun i H v H' => ∃ U y, v = .ref U ∧ H U = none ∧ H' = upd H U (.tup [.int (i : Nat), y]) ∧ ∀ ts, SqT K H a ts → ts[i]? = some y
    stop := fun i H => ∃ ts : List V, SqT K H a ts ∧ ts.length ≤ i }
theorem turn_enT {P : Program} {w : World} {K : PySem.W.Frag} {elts : List Expr} {kk : Nat} {tpos : Pos} (a e it : Addr) :
    Turn P w K (.Tuple elts kk tpos) (ItT K a) [e, it] e (fun i h => (∃ old, IsEnum h e it ((i : Nat) : Int) old) ∧ h.IsTupleIter it a i ∧ e ≠ it) where
  mem := by simp
  obj := fun i h st c hc => by
    obtain ⟨⟨old, he⟩, ⟨ob, ho, _, hd⟩, _⟩ := st
    have hc' : c = e ∨ c = it := by simpa using hc
    rcases hc' with rfl | rfl
    · exact ⟨_, he, fun v q => nomatch q⟩
    · exact ⟨ob, ho, fun v q => by rw [hd] at q; cases q⟩
  keep := fun i h h' st k => by
    obtain ⟨⟨old, he⟩, hi, hne⟩ := st
    exact ⟨⟨old, k e (by simp) _ he⟩, hi.at fun ob q => k it (by simp) ob q, hne⟩
  item := by
    intro X hP hw hK hc i pins s σ H E I hf st hg
    subst hP hw hK
    obtain ⟨⟨old, he⟩, hit, hne⟩ := st
    obtain ⟨ts, y, hq, hy⟩ := hg
    obtain ⟨us, rv, p, hz⟩ := I.tuple hq
    obtain ⟨u, hu, ru⟩ := rv.get hy
    have hel : e < s.heap.objs.size := Heap.lt_size he
    have hil : it < s.heap.objs.size := by obtain ⟨_, q, _⟩ := hit; exact Heap.lt_size q
    have hia : a ≠ it := fun z => by
      obtain ⟨o1, q1, c1, _⟩ := p
      obtain ⟨o2, q2, c2, _⟩ := hit
      rw [z] at q1
      rw [q1] at q2
      cases q2
      rw [c1] at c2
      exact absurd (Value.type.inj c2) (by decide)
    have hea : e ≠ a := fun z => by
      obtain ⟨o1, q1, c1, _⟩ := p
      rw [← z] at q1
      have q2 : s.heap.get? e = some _ := he
      rw [q1] at q2
      cases q2
      exact absurd (Value.type.inj c1) (by decide)
    have hlt : i < us.toArray.size := by
      have := (List.getElem?_eq_some_iff.mp hu).1
      simpa using this
    refine wpAny_pyNext_enum_itemC (Draws.tuple (A := X.A.in1) (I.ok.hd hc) it a hia us.toArray) he ⟨hit, p⟩ hlt hne (fun z => ?_) fun x h' tk hx ho hit' hT hsz hk => ?_
    · have : e = it ∨ e = a := by simpa using z
      rcases this with z | z
      · exact hne z
      · exact hea z
    have exu : x = u := by
      have h1 : us[i]? = some x := by simpa using hx
      rw [hu] at h1
      cases h1
      rfl
    subst exu
    refine ⟨_, rfl, wpAny_letOwnedTupleGo_enum (s := { s with heap := h', toks := tk + 1 }) ho fun h'' he' sb => ?_⟩
    have hT2 : h''.get? s.heap.objs.size = some { cls := .type "tuple", data := .seq #[.int i tk, x] } := (sb.2 _ (Nat.ne_of_gt hel)).trans hT
    have new : ObjOk X.prog X.w (upd H s.heap.objs.size (.tup [.int (i : Nat), y])) h'' s.heap.objs.size (.tup [.int (i : Nat), y]) :=
      ⟨by show 2 ≤ sizeLine; decide, [.int i tk, x], .cons ⟨_, rfl⟩ (.cons ru .nil), ⟨_, hT2, rfl, _, rfl⟩⟩
    have I1 : Inv X pins σ (upd H s.heap.objs.size (.tup [.int (i : Nat), y])) { s with heap := h'', toks := tk + 1 } :=
      I.turnedNew (ch := [e, it]) (fun b ob hb q => (sb.2 b (fun z => hb (by simp [z]))).trans (hk b ob (fun z => hb (by simp [z])) (fun z => hb (by simp [z])) q)) hf (Nat.le_refl _) new
    refine ⟨.ref s.heap.objs.size, _, I1, rfl, ⟨_, y, rfl, I.hok.fresh (Nat.le_refl _), rfl, fun ys hy' => ?_⟩, ⟨⟨x, ?_⟩, hit'.1.at fun ob q => (sb.2 it (Ne.symm hne)).trans q, hne⟩, fun b hb => ?_⟩
    · rw [I.tuple_inj hy' hq]
      exact hy
    · have e1 : ((i + 1 : Nat) : Int) = (i : Int) + 1 := by omega
      rw [e1]; exact he'
    · have hb' : b < s.heap.objs.size := by
        have e' : b = e ∨ b = it := by simpa using hb
        rcases e' with z | z
        · rw [z]; exact hel
        · rw [z]; exact hil
      rw [upd_ne (Nat.ne_of_lt hb')]
      exact (hf b hb).1
  done := by
    intro X hP hw hK hc i pins s σ H E I hf st hg
    subst hP hw hK
    obtain ⟨⟨old, he⟩, hit, hne⟩ := st
    obtain ⟨ts, hq, hx⟩ := hg
    obtain ⟨us, rv, p, hz⟩ := I.tuple hq
    obtain ⟨f0, f1, f2, f3, f4, f5⟩ := hf it (by simp)
    have hl := rv.length
    exact en_end (I.ok.hd hc) he hit p (by simp; omega) fun h' eb => ⟨rfl, I.turned (t' := s.toks) (fun c ob hb q => eb c ob hb q) f0 f1 f3 f4 f5⟩
  self := fun A i s Q E st h => let ⟨⟨_, he⟩, _⟩ := st; wpAny_pyIter_enum he h
/-- enumerate(e), a list or a tuple -/
def iEn (K : PySem.W.Frag) (ta : TA) : TI := fun σ H R => ta σ H fun vs H1 => ∃ a xs, vs = [.ref a] ∧ ((SqL K H1 a xs ∧ R (Ite K a) H1) ∨ (SqT K H1 a xs ∧ R (ItT K a) H1))
theorem pi_en {X : Cx} {e : Expr} {ta : TA} {p pos tpos : Pos} {elts : List Expr} {kk : Nat} (hg : Gl X "enumerate") (hm : X.mg "enumerate" = none) (ha : PA X [e] ta) (hs : starEach [e] X.env = (false, eval e X.env) :: starEach [] X.env) :
    PI X (.Tuple elts kk tpos) (.Call (.Name "enumerate" p) [e] [] pos) (iEn X.K ta) := by
  refine ⟨fun pins s σ H R I h => ?_⟩
  refine Call_ (ld_blt I hg hm boot_enumerate (PyProof.Rows.callWith_type1 (thn (ha.run pos pins s σ H _ I h) fun us s1 ⟨vs, H1, I1, r1, q1⟩ => ?_) hs rfl))
  obtain ⟨a, xs, ex, q1⟩ := q1
  subst ex
  cases r1 with
  | cons r rr =>
    cases rr
    cases r
    have fresh2 : ∀ c, c ∈ [s1.heap.objs.size + 1, s1.heap.objs.size] → FpOk X pins H1 c := fun c hb => by
      have hb' : c = s1.heap.objs.size + 1 ∨ c = s1.heap.objs.size := by simpa using hb
      have hle : s1.heap.objs.size ≤ c := by omega
      exact I1.fpOk hle (I1.hok.fresh hle)
    rcases q1 with ⟨hq, q⟩ | ⟨hq, q⟩
    · obtain ⟨its, rv, p', hz⟩ := I1.list hq
      refine call_enumerate_list p'.isList fun h' he hit hsz hk => wpAny_pyIter_enum he ?_
      exact ⟨s1.heap.objs.size + 1, [s1.heap.objs.size + 1, s1.heap.objs.size], _, _, H1, rfl, I1.kept (t' := s1.toks) hk, turn_enum a (s1.heap.objs.size + 1) s1.heap.objs.size, ⟨⟨.none, he⟩, hit, Nat.succ_ne_self _⟩, fresh2, q⟩
    · obtain ⟨its, rv, p', hz⟩ := I1.tuple hq
      refine en_call (begins_tuple a its.toArray) p' fun h' he hit hk => ?_
      refine wpAny_pyIter_enum he ?_
      exact ⟨s1.heap.objs.size + 1, [s1.heap.objs.size + 1, s1.heap.objs.size], _, _, H1, rfl, I1.kept (t' := s1.toks) hk, turn_enT a (s1.heap.objs.size + 1) s1.heap.objs.size, ⟨⟨.none, he⟩, ⟨_, hit, rfl, rfl⟩, Nat.succ_ne_self _⟩, fresh2, q⟩
end SS

set_option maxRecDepth 100000
set_option maxHeartbeats 4000000
/-! SSG: what is walked, targets, comprehensions -/
namespace SS
open PySem PySem.Spec PyProof.Rows L2
/-- J walks the items, from the heap HB on -/
def ItD (G : Gb) (O : Addr → Prop) (J : It) (items : List D) (HB : Hp) : Prop := ∀ H, Same G HB H → ∀ i : Nat,
  (∀ d, items[i]? = some d → J.go i H ∧ ∀ x H', J.yld i H x H' → Same G H H' ∧ ∀ O' : Addr → Prop, (∀ a, O' a → O a ∨ HB a = none) → Den G H' O' d x) ∧ (items.length ≤ i → J.stop i H)
def kS (G : Gb) (W : WX) (σ : Sg) (O : Addr → Prop) (H : Hp) (R' : It → Hp → Prop) (r : R (List D)) : Prop := match r with
  | .ok items => ∀ J H', Same G H H' → items.length ≤ szl → (∀ HB O', Tr H' O HB O' → ItD G O' J items HB) → R' J H'
  | .err c => ∀ H', Same G H H' → W (.ref (G.ca c)) none σ H'
  | .bad => False
def rdS (G : Gb) (W : WX) (f : Ev → R (List D)) : TI := fun σ H R' => ∃ (ρ : Ev) (O : Addr → Prop), Bnd G O H ∧ Rd G ρ σ H O ∧ kS G W σ O H R' (f ρ)
theorem kS.same {G : Gb} {W : WX} {σ : Sg} {O : Addr → Prop} {H H1 : Hp} {Q : It → Hp → Prop} {r : R (List D)} (s : Same G H H1) (h : kS G W σ O H Q r) : kS G W σ O H1 Q r := by
  cases r with
  | ok db => exact fun J H' s' => h J H' (s.trans s')
  | err c => exact fun H' s' => h H' (s.trans s')
  | bad => exact h
section
variable {G : Gb} {X : Cx} {W : WX}
theorem kE_bindS {σ : Sg} {O : Addr → Prop} {H : Hp} {Q : It → Hp → Prop} {r : R DB} {R' : VK} {g : DB → R (List D)} (hb : Bnd G O H) (h : kS G W σ O H Q (r.bind g))
    (k : ∀ d v H1, r = .ok d → Same G H H1 → Bnd G O H1 → Res G H H1 O d v → kS G W σ O H1 Q (g d) → R' v H1) : kE G W σ O H R' r :=
  kE_then (Q := R') (K := fun H r => kS G W σ O H Q r) hb (fun _ h => h) (fun h => h) h fun d v H1 e s b r h => k d v H1 e s b r (h.same s)
theorem PI_imp {tg iter : Expr} {t t' : TI} (h : PI X tg iter t) (k : ∀ σ H Q, t' σ H Q → t σ H Q) : PI X tg iter t' := ⟨fun pins s σ H R I q => h.run pins s σ H R I (k _ _ _ q)⟩
/-- the reader of what is walked may use the frame's facts -/
theorem PI_inv {tg iter : Expr} {t t' : TI} (h : PI X tg iter t) (P : It → Hp → (It → Hp → Prop) → Prop) (k : ∀ σ H R, t' σ H R → t σ H fun J H1 => P J H1 R)
    (hP : ∀ J H1 R (pins : List (Addr × Obj)) (σ : Sg) (s : Shared), L2.Inv X pins σ H1 s → P J H1 R → R J H1) : PI X tg iter t' := by
  refine ⟨fun pins s σ H R I q => ?_⟩
  refine thn (h.run pins s σ H _ I (k _ _ _ q)) fun v s1 h1 => thn h1 fun itv s2 ⟨it, fp, tn, J, H', e, I2, T, t0, hf, r⟩ => ⟨it, fp, tn, J, H', e, I2, T, t0, hf, hP J H' R pins σ s2 I2 r⟩

theorem it_list {H' : Hp} {O : Addr → Prop} {a : Addr} {xs : List V} {ds : List D} (e : H' a = some (.lst xs)) (n : ¬ O a) (r : DenL G H' O ds xs) (hK : X.K = G.K) : ∀ HB O', Tr H' O HB O' → ItD G O' (Itl X.K a) ds HB := by
  intro HB O' T H s i
  have e1 : H a = some (.lst xs) := s.g (T.lst _ _ e n).1
  have q1 : SqL X.K H a xs := .inl (.inl e1)
  refine ⟨fun d hd => ?_, fun hl => ⟨xs, q1, by rw [← r.length]; exact hl⟩⟩
  obtain ⟨v, h1, h2⟩ := r.get hd
  refine ⟨⟨xs, v, q1, h1⟩, fun x H2 ⟨e2, y⟩ => ?_⟩
  subst e2
  have h3 := y xs q1
  rw [h1] at h3
  cases h3
  exact ⟨Same.refl _, fun O'' hO => (h2.tr T).tr (Tr.same s hO)⟩
theorem it_tup {H' : Hp} {O : Addr → Prop} {a : Addr} {xs : List V} {ds : List D} (e : SqT X.K H' a xs) (r : DenL G H' O ds xs) : ∀ HB O', Tr H' O HB O' → ItD G O' (Itt X.K a) ds HB := by
  intro HB O' T H s i
  have q1 : SqT X.K H a xs := sqT_tr (fun _ _ z => s.g z) (fun _ _ _ z => s.g z) (sqT_tr T.tup T.frz e)
  refine ⟨fun d hd => ?_, fun hl => ⟨xs, q1, by rw [← r.length]; exact hl⟩⟩
  obtain ⟨v, h1, h2⟩ := r.get hd
  refine ⟨⟨xs, v, q1, h1⟩, fun x H2 ⟨e2, y⟩ => ?_⟩
  subst e2
  have h3 := y xs q1
  rw [h1] at h3
  cases h3
  exact ⟨Same.refl _, fun O'' hO => (h2.tr T).tr (Tr.same s hO)⟩
theorem di_list {tg e : Expr} {f : Ev → R DB} (hK : X.K = G.K) (he : PE X e (rdE G W f)) (only : Ev → Prop) (ho : ∀ ρ, only ρ → ∃ ds b, f ρ = .ok (.lst ds, b)) :
    PI X tg e (fun σ H R' => ∃ (ρ : Ev) (O : Addr → Prop), only ρ ∧ Bnd G O H ∧ Rd G ρ σ H O ∧ kS G W σ O H R' ((f ρ).bind fun x => sqD x.1)) := by
  refine PI_inv (pi_list he) (fun J H1 R' => ∃ a xs, J = Itl X.K a ∧ H1 a = some (.lst xs) ∧ (xs.length ≤ szl → R' J H1)) (fun σ H R' ⟨ρ, O, hon, hb, hr, h⟩ => ⟨ρ, O, hb, hr, kE_bindS hb h fun d v H1 e1 s hb1 r h1 => ?_⟩) (fun J H1 R' pins σ s I ⟨a, xs, _, e1, k⟩ => k (by
      obtain ⟨_, _, _, hz⟩ := I.list (.inl (.inl e1))
      rw [szl_eq]; exact hz))
  obtain ⟨ds, b, e2⟩ := ho ρ hon
  rw [e2] at e1
  cases e1
  have r' := r.den hb
  cases r' with
  | @lst a xs _ q n r1 =>
    exact ⟨a, rfl, ⟨xs, .inl (.inl q)⟩, a, xs, rfl, q, fun hz => h1 _ _ (Same.refl _) (by rw [r1.length]; exact hz) (it_list q n r1 hK)⟩
theorem di_tup {tg e : Expr} {f : Ev → R DB} (hK : X.K = G.K) (he : PE X e (rdE G W f)) (only : Ev → Prop) (ho : ∀ ρ, only ρ → ∃ ds b, f ρ = .ok (.tup ds, b)) :
    PI X tg e (fun σ H R' => ∃ (ρ : Ev) (O : Addr → Prop), only ρ ∧ Bnd G O H ∧ Rd G ρ σ H O ∧ kS G W σ O H R' ((f ρ).bind fun x => sqD x.1)) := by
  refine PI_inv (pi_tup he) (fun J H1 R' => ∃ a xs, J = Itt X.K a ∧ SqT X.K H1 a xs ∧ (xs.length ≤ szl → R' J H1)) (fun σ H R' ⟨ρ, O, hon, hb, hr, h⟩ => ⟨ρ, O, hb, hr, kE_bindS hb h fun d v H1 e1 s hb1 r h1 => ?_⟩) (fun J H1 R' pins σ s I ⟨a, xs, _, e1, k⟩ => k (by
      obtain ⟨_, _, _, hz⟩ := I.tuple e1
      rw [szl_eq]; exact hz))
  obtain ⟨ds, b, e2⟩ := ho ρ hon
  rw [e2] at e1
  cases e1
  have r' := r.den hb
  cases r' with
  | @tup a xs _ _ hd qd r1 =>
    have q : SqT G.K _ a xs := tO_sq qd
    rw [← hK] at q
    exact ⟨a, rfl, ⟨xs, q⟩, a, xs, rfl, q, fun hz => h1 _ _ (Same.refl _) (by rw [r1.length]; exact hz) (it_tup q r1)⟩
theorem it_str {z : Str} {O : Addr → Prop} {HB : Hp} : ItD G O (Its z) (z.cps.toList.map fun c => D.str ⟨#[c]⟩) HB := by
  intro H s i
  refine ⟨fun d hd => ?_, fun hl => by rw [List.length_map] at hl; exact hl⟩
  rw [List.getElem?_map] at hd
  cases e : z.cps.toList[i]? with
  | none => rw [e] at hd; cases hd
  | some c =>
    rw [e] at hd
    cases hd
    have e2 : z.cps[i]? = some c := by rw [← Array.getElem?_toList]; exact e
    refine ⟨(Array.getElem?_eq_some_iff.mp e2).1, fun x H2 ⟨e3, c', e4, e5⟩ => ?_⟩
    subst e3
    rw [e2] at e4
    cases e4
    subst e5
    exact ⟨Same.refl _, fun _ _ => .str _⟩
theorem di_str {tg e : Expr} {f : Ev → R DB} (he : PE X e (rdE G W f)) (only : Ev → Prop) (ho : ∀ ρ, only ρ → ∃ z b, f ρ = .ok (.str z, b)) :
    PI X tg e (fun σ H R' => ∃ (ρ : Ev) (O : Addr → Prop), only ρ ∧ Bnd G O H ∧ Rd G ρ σ H O ∧ kS G W σ O H R' ((f ρ).bind fun x => sqD x.1)) := by
  refine PI_imp (pi_str he) fun σ H R' ⟨ρ, O, hon, hb, hr, h⟩ => ⟨ρ, O, hb, hr, kE_bindS hb h fun d v H1 e1 s hb1 r h1 => ?_⟩
  obtain ⟨z, b, e2⟩ := ho ρ hon
  rw [e2] at e1
  cases e1
  have r' := r.den hb
  cases r'
  refine ⟨z, rfl, ?_⟩
  simp only [sqD] at h1
  by_cases hc : z.length ≤ szl
  · simp only [decide_eq_true hc, okIf_true] at h1
    exact h1 _ _ (Same.refl _) (by rw [List.length_map]; exact hc) fun _ _ _ => it_str
  · simp only [decide_eq_false hc] at h1
    exact False.elim h1
theorem di_seq {tg e : Expr} {f : Ev → R DB} (hK : X.K = G.K) (he : PE X e (rdE G W f)) :
    PI X tg e (rdS G W fun ρ => (f ρ).bind fun x => sqD x.1) := by
  refine ⟨fun pins s σ H R' I ⟨ρ, O, hb, hr, h⟩ => ?_⟩
  by_cases ht : ∃ ds b, f ρ = .ok (.tup ds, b)
  · exact (di_tup hK he (fun r => r = ρ) (fun r e => by rw [e]; exact ht)).run pins s σ H R' I ⟨ρ, O, rfl, hb, hr, h⟩
  · by_cases hl : ∃ ds b, f ρ = .ok (.lst ds, b)
    · exact (di_list hK he (fun r => r = ρ) (fun r e => by rw [e]; exact hl)).run pins s σ H R' I ⟨ρ, O, rfl, hb, hr, h⟩
    · by_cases hs : ∃ z b, f ρ = .ok (.str z, b)
      · exact (di_str he (fun r => r = ρ) (fun r e => by rw [e]; exact hs)).run pins s σ H R' I ⟨ρ, O, rfl, hb, hr, h⟩
      · refine (pi_list he).run pins s σ H R' I ⟨ρ, O, hb, hr, ?_⟩
        cases e : f ρ with
        | ok d =>
          obtain ⟨d1, d2⟩ := d
          simp only [e, R.bind_ok] at h
          cases d1 with
          | tup ds => exact absurd ⟨ds, d2, e⟩ ht
          | lst ds => exact absurd ⟨ds, d2, e⟩ hl
          | str ds => exact absurd ⟨ds, d2, e⟩ hs
          | _ => exact False.elim h
        | err c => simp only [e, R.bind_err] at h; exact h
        | bad => simp only [e, R.bind_bad] at h; exact h
/-! ranges -/
theorem rgD_length (a b : Int) : (rgD a b).length = (b - a).toNat := by unfold rgD; rw [List.length_map, List.length_range]
theorem it_rg {O : Addr → Prop} {a b : Int} {HB : Hp} : ItD G O (Itr a (b - a).toNat) (rgD a b) HB := by
  intro H s i
  refine ⟨fun d hd => ?_, fun hl => by rw [rgD_length] at hl; exact hl⟩
  have hi : i < (rgD a b).length := (List.getElem?_eq_some_iff.mp hd).1
  rw [rgD_length] at hi
  refine ⟨hi, fun x H2 ⟨e2, e3⟩ => ?_⟩
  subst e2
  subst e3
  have e : d = .int (a + (i : Nat)) := by
    unfold rgD at hd
    rw [List.getElem?_map, List.getElem?_range hi] at hd
    exact (Option.some.inj hd).symm
  rw [e]
  exact ⟨Same.refl _, fun _ _ => .int _⟩
theorem rgOk_of {a b : Int} (h : rgOk a b = true) : (-(2 ^ 62) ≤ a ∧ a < 2 ^ 62 ∧ -(2 ^ 62) ≤ b ∧ b < 2 ^ 62) ∧ (b - a).toNat ≤ szl := by
  unfold rgOk at h
  simp only [Bool.and_eq_true, decide_eq_true_eq] at h
  have e : (2 : Int) ^ 62 = 4611686018427387904 := by decide
  rw [e]
  unfold szl
  omega
theorem kE_intS {σ : Sg} {O : Addr → Prop} {H : Hp} {r : R DB} {g : Int → R (List D)} {Q : It → Hp → Prop} {R' : V → Hp → Prop} (hb : Bnd G O H) (h : kS G W σ O H Q ((intR r).bind g))
    (k : ∀ i H1, Same G H H1 → Bnd G O H1 → kS G W σ O H1 Q (g i) → R' (.int i) H1) : kE G W σ O H R' r := by
  have e : (intR r).bind g = r.bind fun d => (match d.1 with | .int b => R.ok b | _ => R.bad).bind g := by cases r <;> rfl
  rw [e] at h
  refine kE_bindS hb h fun d v H1 _ s b r h => ?_
  have r' := r.den hb
  obtain ⟨d1, d2⟩ := d
  cases r' with
  | int i => exact k i H1 s b h
  | _ => exact False.elim h
theorem di_rg1 {tg a : Expr} {f : Ev → R DB} {p pos : Pos} (hg : Gl X "range") (hm : X.mg "range" = none) (ha : PE X a (rdE G W f)) (hs : starEach [a] X.env = (false, eval a X.env) :: starEach [] X.env) :
    PI X tg (.Call (.Name "range" p) [a] [] pos) (rdS G W fun ρ => (intR (f ρ)).bind fun n => okIf (rgOk 0 n) (rgD 0 n)) := by
  refine PI_imp (pi_range1 hg hm (pa_cons ha pa_nil hs) (hs := hs)) fun σ H R' ⟨ρ, O, hb, hr, h⟩ => ⟨ρ, O, hb, hr, kE_intS hb h fun n H1 s hb1 h1 => ?_⟩
  by_cases hc : rgOk 0 n = true
  · rw [hc, okIf_true] at h1
    obtain ⟨⟨q1, q2, q3, q4⟩, q5⟩ := rgOk_of hc
    have e0 : n.toNat = (n - 0).toNat := by omega
    refine ⟨n, rfl, q3, q4, ?_⟩
    rw [e0]
    exact h1 _ _ (Same.refl _) (by rw [rgD_length]; exact q5) fun HB O' _ => it_rg
  · rw [Bool.not_eq_true _ |>.mp hc] at h1
    exact False.elim h1
theorem di_rg2 {tg a b : Expr} {f g : Ev → R DB} {p pos : Pos} (hg : Gl X "range") (hm : X.mg "range" = none) (ha : PE X a (rdE G W f)) (hb : PE X b (rdE G W g)) (hs2 : starEach [b] X.env = (false, eval b X.env) :: starEach [] X.env) (hs : starEach [a, b] X.env = (false, eval a X.env) :: starEach [b] X.env) :
    PI X tg (.Call (.Name "range" p) [a, b] [] pos) (rdS G W fun ρ => (intR (f ρ)).bind fun m => (intR (g ρ)).bind fun n => okIf (rgOk m n) (rgD m n)) := by
  refine PI_imp (pi_range2 hg hm (pa_cons ha (pa_cons hb pa_nil hs2) hs) (hs := by rw [hs, hs2]; rfl) (hs2 := hs2)) fun σ H R' ⟨ρ, O, hb, hr, h⟩ => ⟨ρ, O, hb, hr, kE_intS hb h fun m H1 s hb1 h1 => ⟨ρ, O, hb1, hr.same s, kE_intS hb1 h1 fun n H2 s2 hb2 h2 => ?_⟩⟩
  by_cases hc : rgOk m n = true
  · rw [hc, okIf_true] at h2
    obtain ⟨q, q5⟩ := rgOk_of hc
    exact ⟨m, n, rfl, q, h2 _ _ (Same.refl _) (by rw [rgD_length]; exact q5) fun HB O' _ => it_rg⟩
  · rw [Bool.not_eq_true _ |>.mp hc] at h2
    exact False.elim h2

/-! zip, enumerate -/
theorem zipD_get : ∀ {xs ys : List D} {i : Nat} {d : D}, (zipD xs ys)[i]? = some d → ∃ x y, xs[i]? = some x ∧ ys[i]? = some y ∧ d = .tup [x, y]
  | [], _, _, _, h => by simp [zipD] at h
  | _ :: _, [], _, _, h => by simp [zipD] at h
  | x :: xs, y :: ys, 0, d, h => by
    simp [zipD] at h
    exact ⟨x, y, rfl, rfl, h.symm⟩
  | x :: xs, y :: ys, i + 1, d, h => by
    simp [zipD] at h
    obtain ⟨a, b, h1, h2, h3⟩ := zipD_get h
    exact ⟨a, b, by simpa using h1, by simpa using h2, h3⟩
theorem zipD_len : ∀ xs ys : List D, (zipD xs ys).length = min xs.length ys.length
  | [], _ => by simp [zipD]
  | _ :: _, [] => by simp [zipD]
  | x :: xs, y :: ys => by
    simp only [zipD, List.length_cons, zipD_len xs ys]
    omega
theorem enumD_get : ∀ {xs : List D} {n i : Nat} {d : D}, (enumD n xs)[i]? = some d → ∃ x, xs[i]? = some x ∧ d = .tup [.int ((n + i : Nat) : Int), x]
  | [], _, _, _, h => by simp [enumD] at h
  | x :: xs, n, 0, d, h => by
    simp [enumD] at h
    exact ⟨x, rfl, h.symm⟩
  | x :: xs, n, i + 1, d, h => by
    simp only [enumD, List.getElem?_cons_succ] at h
    obtain ⟨a, h1, h3⟩ := enumD_get h
    refine ⟨a, by simpa using h1, ?_⟩
    rw [h3]
    have e : n + 1 + i = n + (i + 1) := by omega
    rw [e]
theorem enumD_len : ∀ (n : Nat) (xs : List D), (enumD n xs).length = xs.length
  | _, [] => rfl
  | n, x :: xs => by simp only [enumD, List.length_cons, enumD_len (n + 1) xs]
theorem pair_den {H : Hp} {O : Addr → Prop} {T : Addr} {x y : V} {a : Int} {b : D} (hT : H T = none) (ha : Den G H O (.int a) x) (hb : Den G H O b y) : Same G H (upd H T (.tup [x, y])) ∧ Den G (upd H T (.tup [x, y])) O (.tup [.int a, b]) (.ref T) :=
  ⟨same_new hT, Den.tupNew0 (o := noO) rfl rfl hT (.cons ha (.cons hb .nil))⟩
/-- which pairs dict() may be asked for -/
def zf (l : List D) (i : Nat) : Bool := match l[i]? with | some (.tup xs) => fzD xs | _ => false
theorem pair_denZ {H : Hp} {O : Addr → Prop} {T : Addr} {x y : V} {a b : D} {l : List D} {i : Nat} {o : Obj} (hn : o.dict = none) (hl : l[i]? = some (.tup [a, b])) (hT : H T = none) (ha : Den G H O a x) (hb : Den G H O b y) :
    Same G H (upd H T (tO (zf l i) o [x, y])) ∧ Den G (upd H T (tO (zf l i) o [x, y])) O (.tup [a, b]) (.ref T) := by
  have e : zf l i = fzD [a, b] := by unfold zf; rw [hl]
  rw [e]
  exact ⟨same_new hT, Den.tupNew hn hT (.cons ha (.cons hb .nil))⟩
theorem it_zip {H' : Hp} {O : Addr → Prop} {a b : Addr} {xs ys : List V} {ds es : List D} (e : H' a = some (.lst xs)) (n : ¬ O a) (r : DenL G H' O ds xs) (e2 : H' b = some (.lst ys)) (n2 : ¬ O b) (r2 : DenL G H' O es ys) :
    ∀ HB O', Tr H' O HB O' → ItD G O' (ItzP X.K (zf (zipD ds es)) a b) (zipD ds es) HB := by
  intro HB O' T H s i
  have q1 : SqL X.K H a xs := .inl (.inl (s.g (T.lst _ _ e n).1))
  have q2 : SqL X.K H b ys := .inl (.inl (s.g (T.lst _ _ e2 n2).1))
  refine ⟨fun d hd => ?_, fun hl => ⟨xs, ys, q1, q2, by rw [zipD_len, r.length, r2.length] at hl; omega⟩⟩
  obtain ⟨x, y, h1, h2, ed⟩ := zipD_get hd
  subst ed
  obtain ⟨v, g1, g2⟩ := r.get h1
  obtain ⟨w, g3, g4⟩ := r2.get h2
  refine ⟨⟨xs, ys, v, w, q1, q2, g1, g3⟩, fun z H2 ⟨U, v', w', o, ez, hU, hn, eH, k1, k2⟩ => ?_⟩
  have k1' := k1 xs q1
  have k2' := k2 ys q2
  rw [g1] at k1'
  rw [g3] at k2'
  cases k1'
  cases k2'
  subst ez
  subst eH
  exact ⟨same_new hU, fun O'' hO => (pair_denZ hn hd hU ((g2.tr T).tr (Tr.same s hO)) ((g4.tr T).tr (Tr.same s hO))).2⟩
theorem it_zipT {H' : Hp} {O : Addr → Prop} {a b : Addr} {xs ys : List V} {ds es : List D} (e : SqT X.K H' a xs) (r : DenL G H' O ds xs) (e2 : SqT X.K H' b ys) (r2 : DenL G H' O es ys) :
    ∀ HB O', Tr H' O HB O' → ItD G O' (ItzQ X.K (zf (zipD ds es)) a b) (zipD ds es) HB := by
  intro HB O' T H s i
  have q1 : SqT X.K H a xs := sqT_tr (fun _ _ z => s.g z) (fun _ _ _ z => s.g z) (sqT_tr T.tup T.frz e)
  have q2 : SqT X.K H b ys := sqT_tr (fun _ _ z => s.g z) (fun _ _ _ z => s.g z) (sqT_tr T.tup T.frz e2)
  refine ⟨fun d hd => ?_, fun hl => ⟨xs, ys, q1, q2, by rw [zipD_len, r.length, r2.length] at hl; omega⟩⟩
  obtain ⟨x, y, h1, h2, ed⟩ := zipD_get hd
  subst ed
  obtain ⟨v, g1, g2⟩ := r.get h1
  obtain ⟨w, g3, g4⟩ := r2.get h2
  refine ⟨⟨xs, ys, v, w, q1, q2, g1, g3⟩, fun z H2 ⟨U, v', w', o, ez, hU, hn, eH, k1, k2⟩ => ?_⟩
  have k1' := k1 xs q1
  have k2' := k2 ys q2
  rw [g1] at k1'
  rw [g3] at k2'
  cases k1'
  cases k2'
  subst ez
  subst eH
  exact ⟨same_new hU, fun O'' hO => (pair_denZ hn hd hU ((g2.tr T).tr (Tr.same s hO)) ((g4.tr T).tr (Tr.same s hO))).2⟩
theorem it_enum {H' : Hp} {O : Addr → Prop} {a : Addr} {xs : List V} {ds : List D} (e : H' a = some (.lst xs)) (n : ¬ O a) (r : DenL G H' O ds xs) :
    ∀ HB O', Tr H' O HB O' → ItD G O' (Ite X.K a) (enumD 0 ds) HB := by
  intro HB O' T H s i
  have q1 : SqL X.K H a xs := .inl (.inl (s.g (T.lst _ _ e n).1))
  refine ⟨fun d hd => ?_, fun hl => ⟨xs, q1, by rw [enumD_len, r.length] at hl; exact hl⟩⟩
  obtain ⟨x, h1, rfl⟩ := enumD_get hd
  obtain ⟨v, g1, g2⟩ := r.get h1
  refine ⟨⟨xs, v, q1, g1⟩, fun z H2 ⟨U, v', ez, hU, eH, k1⟩ => ?_⟩
  have k1' := k1 xs q1
  rw [g1] at k1'
  cases k1'
  subst ez
  subst eH
  exact ⟨same_new hU, fun O'' hO => (pair_den (a := (((0 + i : Nat)) : Int)) hU (by rw [Nat.zero_add]; exact .int _) ((g2.tr T).tr (Tr.same s hO))).2⟩
theorem it_enT {H' : Hp} {O : Addr → Prop} {a : Addr} {xs : List V} {ds : List D} (e : SqT X.K H' a xs) (r : DenL G H' O ds xs) :
    ∀ HB O', Tr H' O HB O' → ItD G O' (ItT X.K a) (enumD 0 ds) HB := by
  intro HB O' T H s i
  have q1 : SqT X.K H a xs := sqT_tr (fun _ _ z => s.g z) (fun _ _ _ z => s.g z) (sqT_tr T.tup T.frz e)
  refine ⟨fun d hd => ?_, fun hl => ⟨xs, q1, by rw [enumD_len, r.length] at hl; exact hl⟩⟩
  obtain ⟨x, h1, rfl⟩ := enumD_get hd
  obtain ⟨v, g1, g2⟩ := r.get h1
  refine ⟨⟨xs, v, q1, g1⟩, fun z H2 ⟨U, v', ez, hU, eH, k1⟩ => ?_⟩
  have k1' := k1 xs q1
  rw [g1] at k1'
  cases k1'
  subst ez
  subst eH
  exact ⟨same_new hU, fun O'' hO => (pair_den (a := (((0 + i : Nat)) : Int)) hU (by rw [Nat.zero_add]; exact .int _) ((g2.tr T).tr (Tr.same s hO))).2⟩
theorem di_zip {e e2 : Expr} {f g : Ev → R DB} {p pos tpos : Pos} {elts : List Expr} {kk : Nat} (hK : X.K = G.K) (hg : Gl X "zip") (hm : X.mg "zip" = none) (ha : PE X e (rdE G W f)) (hb : PE X e2 (rdE G W g))
    (hs2 : starEach [e2] X.env = (false, eval e2 X.env) :: starEach [] X.env) (hs : starEach [e, e2] X.env = (false, eval e X.env) :: starEach [e2] X.env) (hpl : (backTo pos (starEach [e2] X.env)).any (·.1) = false) :
    PI X (.Tuple elts kk tpos) (.Call (.Name "zip" p) [e, e2] [] pos) (rdS G W fun ρ => (f ρ).bind fun x => (g ρ).bind fun y => match x.1, y.1 with
    | .lst xs, .lst ys => .ok (zipD xs ys) | .tup xs, .tup ys => .ok (zipD xs ys) | _, _ => .bad) := by
  refine PI_inv (pi_zipP hg hm (pa_cons ha (pa_cons hb pa_nil hs2) hs) hs hpl)
    (fun J H1 R' => ∃ a b xs ys, ((SqL X.K H1 a xs ∧ SqL X.K H1 b ys) ∨ (SqT X.K H1 a xs ∧ SqT X.K H1 b ys)) ∧ (min xs.length ys.length ≤ szl → R' J H1))
    (fun σ H R' ⟨ρ, O, hb, hr, h⟩ => ⟨ρ, O, hb, hr, kE_bindS hb h fun d v H1 _ s hb1 r h1 => ⟨ρ, O, hb1, hr.same s, kE_bindS hb1 h1 fun d' v' H2 _ s2 hb2 r2 h2 => ?_⟩⟩)
    (fun J H1 R' pins σ s I ⟨a, b, xs, ys, q, k⟩ => k (by
      rcases q with ⟨q, _⟩ | ⟨q, _⟩
      · obtain ⟨_, _, _, hz⟩ := I.list q
        rw [szl_eq]; omega
      · obtain ⟨_, _, _, hz⟩ := I.tuple q
        rw [szl_eq]; omega))
  have r' := (r.den hb).same s2
  have r2' := r2.den hb1
  obtain ⟨d1, d2⟩ := d
  obtain ⟨d1', d2'⟩ := d'
  simp only at h2 r' r2'
  cases r' with
  | @lst a xs ds q n rr =>
    cases r2' with
    | @lst b ys es q2 n2 rr2 =>
      exact ⟨a, b, xs, ys, zf (zipD ds es), rfl, .inl ⟨.inl (.inl q), .inl (.inl q2), a, b, xs, ys, .inl ⟨.inl (.inl q), .inl (.inl q2)⟩, fun hz => h2 _ _ (Same.refl _) (by rw [zipD_len, rr.length, rr2.length]; exact hz) (it_zip q n rr q2 n2 rr2)⟩⟩
    | _ => exact False.elim h2
  | @tup a xs ds _ hd qd rr =>
    have q : SqT G.K _ a xs := tO_sq qd
    cases r2' with
    | @tup b ys es _ h2d q2d rr2 =>
      have q2 : SqT G.K _ b ys := tO_sq q2d
      rw [← hK] at q q2
      exact ⟨a, b, xs, ys, zf (zipD ds es), rfl, .inr ⟨q, q2, a, b, xs, ys, .inr ⟨q, q2⟩, fun hz => h2 _ _ (Same.refl _) (by rw [zipD_len, rr.length, rr2.length]; exact hz) (it_zipT q rr q2 rr2)⟩⟩
    | _ => exact False.elim h2
  | _ => exact False.elim h2
theorem di_enum {e : Expr} {f : Ev → R DB} {p pos tpos : Pos} {elts : List Expr} {kk : Nat} (hK : X.K = G.K) (hg : Gl X "enumerate") (hm : X.mg "enumerate" = none) (ha : PE X e (rdE G W f))
    (hs : starEach [e] X.env = (false, eval e X.env) :: starEach [] X.env) :
    PI X (.Tuple elts kk tpos) (.Call (.Name "enumerate" p) [e] [] pos) (rdS G W fun ρ => (f ρ).bind fun x => match x.1 with | .lst xs => .ok (enumD 0 xs) | .tup xs => .ok (enumD 0 xs) | _ => .bad) := by
  refine PI_inv (pi_en hg hm (pa_cons ha pa_nil hs) hs)
    (fun J H1 R' => ∃ a xs, (SqL X.K H1 a xs ∨ SqT X.K H1 a xs) ∧ (xs.length ≤ szl → R' J H1))
    (fun σ H R' ⟨ρ, O, hb, hr, h⟩ => ⟨ρ, O, hb, hr, kE_bindS hb h fun d v H1 _ s hb1 r h1 => ?_⟩)
    (fun J H1 R' pins σ s I ⟨a, xs, q, k⟩ => k (by
      rcases q with q | q
      · obtain ⟨_, _, _, hz⟩ := I.list q
        rw [szl_eq]; exact hz
      · obtain ⟨_, _, _, hz⟩ := I.tuple q
        rw [szl_eq]; exact hz))
  have r' := r.den hb
  obtain ⟨d1, d2⟩ := d
  simp only at h1 r'
  cases r' with
  | @lst a xs ds q n rr => exact ⟨a, xs, rfl, .inl ⟨.inl (.inl q), a, xs, .inl (.inl (.inl q)), fun hz => h1 _ _ (Same.refl _) (by rw [enumD_len, rr.length]; exact hz) (it_enum q n rr)⟩⟩
  | @tup a xs ds _ hd qd rr =>
    have q : SqT G.K _ a xs := tO_sq qd
    rw [← hK] at q
    exact ⟨a, xs, rfl, .inr ⟨q, a, xs, .inr q, fun hz => h1 _ _ (Same.refl _) (by rw [enumD_len, rr.length]; exact hz) (it_enT q rr)⟩⟩
  | _ => exact False.elim h1
/-! list(range(..)), tuple(range(..)) -/
theorem den_rg {H : Hp} {O : Addr → Prop} (a b : Int) : DenL G H O (rgD a b) (rgV a b) := by
  unfold rgD rgV
  generalize List.range (b - a).toNat = l
  induction l with
  | nil => exact .nil
  | cons x r ih => exact .cons (.int _) ih
theorem rgOk_Ok {a b : Int} (h : rgOk a b = true) : RgOk a b := by
  obtain ⟨⟨h1, h2, h3, h4⟩, h5⟩ := rgOk_of h
  exact ⟨h1, h2, h3, h4, h5⟩
def rgN (t : Bool) : Str := if t = true then "tuple" else "list"
def Rgk (t : Bool) (m n : Int) (Q : VK) (H : Hp) : Prop := match t with | true => ∃ c, NewT c (rgV m n) Q H | false => ∀ q, H q = none → Q (.ref q) (upd H q (.lst (rgV m n)))
def tRgB (t : Bool) (te : L2.St → Hp → (Int → Int → Hp → Prop) → Prop) : TE := if t = true then tTupRgP te else tLstRg te
theorem pe_rgB {t : Bool} {e : Expr} {te : L2.St → Hp → (Int → Int → Hp → Prop) → Prop} {p pos : Pos} (hc : X.calm = true) (hg : Gl X (rgN t)) (hm : X.mg (rgN t) = none) (he : PRg X e te) (na : starEach [e] X.env = (false, eval e X.env) :: starEach [] X.env) : PE X (.Call (.Name (rgN t) p) [e] [] pos) (tRgB t te) := by
  cases t
  · exact pe_listRg hc hg hm he na
  · exact pe_tupRgP hc hg hm he na
theorem kE_intE {σ : Sg} {O : Addr → Prop} {H : Hp} {r : R DB} {g : Int → R DB} {Q : VK} {R' : V → Hp → Prop} (hb : Bnd G O H) (h : kE G W σ O H Q ((intR r).bind g))
    (k : ∀ i H1, Same G H H1 → Bnd G O H1 → kE G W σ O H1 Q (g i) → R' (.int i) H1) : kE G W σ O H R' r := by
  have e : (intR r).bind g = r.bind fun d => (match d.1 with | .int b => R.ok b | _ => R.bad).bind g := by cases r <;> rfl
  rw [e] at h
  refine kE_bind hb h fun d v H1 _ s b r h => ?_
  have r' := r.den hb
  obtain ⟨d1, d2⟩ := d
  cases r' with
  | int i => exact k i H1 s b h
  | _ => exact False.elim h
theorem rg_end {t : Bool} {σ : Sg} {O : Addr → Prop} {H : Hp} {Q : VK} {m n : Int} (hb : Bnd G O H) (h : kE G W σ O H Q ((okIf (rgOk m n) (rgD m n)).bind fun xs => .ok (if t = true then (.tup xs, false) else (.lst xs, true)))) :
    RgOk m n ∧ Rgk t m n Q H := by
  by_cases hc : rgOk m n = true
  · rw [hc, okIf_true] at h
    refine ⟨rgOk_Ok hc, ?_⟩
    cases t
    · exact fun q hq => h _ _ (same_new hq) (Res.mk hq hb (den_rg m n))
    · exact ⟨fzD (rgD m n), fun q o hq hn => h _ _ (same_new hq) (Res.of (Den.tupNew hn hq (den_rg m n)))⟩
  · rw [Bool.not_eq_true _ |>.mp hc] at h
    exact False.elim h
theorem tRgB_of {t : Bool} {te : L2.St → Hp → (Int → Int → Hp → Prop) → Prop} {σ : Sg} {H : Hp} {Q : VK} (h : te σ H fun a b H1 => RgOk a b ∧ Rgk t a b Q H1) : tRgB t te σ H Q := by
  cases t
  · exact h
  · exact h
theorem de_rng1 {t : Bool} {a : Expr} {f : Ev → R DB} {p p2 pos pos2 : Pos} (hc : X.calm = true) (hg : Gl X (rgN t)) (hm : X.mg (rgN t) = none) (hgr : Gl X "range") (hmr : X.mg "range" = none) (ha : PE X a (rdE G W f)) (hs : starEach [a] X.env = (false, eval a X.env) :: starEach [] X.env) :
    PE X (.Call (.Name (rgN t) p) [.Call (.Name "range" p2) [a] [] pos2] [] pos) (rdE G W fun ρ => ((intR (f ρ)).bind fun n => okIf (rgOk 0 n) (rgD 0 n)).bind fun xs => .ok (if t = true then (.tup xs, false) else (.lst xs, true))) := by
  refine PE_imp (pe_rgB hc hg hm (prg_1 hgr hmr ha hs) rfl) fun σ H Q ⟨ρ, O, hb, hr, h⟩ => tRgB_of ⟨ρ, O, hb, hr, ?_⟩
  have e : (((intR (f ρ)).bind fun n => okIf (rgOk 0 n) (rgD 0 n)).bind fun xs => R.ok (if t = true then (D.tup xs, false) else (D.lst xs, true))) = (intR (f ρ)).bind fun n => (okIf (rgOk 0 n) (rgD 0 n)).bind fun xs => R.ok (if t = true then (D.tup xs, false) else (D.lst xs, true)) := by
    cases intR (f ρ) <;> rfl
  dsimp only at h
  rw [e] at h
  exact kE_intE hb h fun n H1 s hb1 h1 => ⟨n, rfl, rg_end hb1 h1⟩
theorem de_rng2 {t : Bool} {a b : Expr} {f g : Ev → R DB} {p p2 pos pos2 : Pos} (hc : X.calm = true) (hg : Gl X (rgN t)) (hm : X.mg (rgN t) = none) (hgr : Gl X "range") (hmr : X.mg "range" = none) (ha : PE X a (rdE G W f)) (hb : PE X b (rdE G W g)) (hs2 : starEach [b] X.env = (false, eval b X.env) :: starEach [] X.env) (hs : starEach [a, b] X.env = (false, eval a X.env) :: starEach [b] X.env) :
    PE X (.Call (.Name (rgN t) p) [.Call (.Name "range" p2) [a, b] [] pos2] [] pos) (rdE G W fun ρ => ((intR (f ρ)).bind fun m => (intR (g ρ)).bind fun n => okIf (rgOk m n) (rgD m n)).bind fun xs => .ok (if t = true then (.tup xs, false) else (.lst xs, true))) := by
  refine PE_imp (pe_rgB hc hg hm (prg_2 hgr hmr ha hb hs hs2 (by rw [hs2]; rfl)) rfl) fun σ H Q ⟨ρ, O, hb, hr, h⟩ => tRgB_of ⟨ρ, O, hb, hr, ?_⟩
  have e : (((intR (f ρ)).bind fun m => (intR (g ρ)).bind fun n => okIf (rgOk m n) (rgD m n)).bind fun xs => R.ok (if t = true then (D.tup xs, false) else (D.lst xs, true))) = (intR (f ρ)).bind fun m => (intR (g ρ)).bind fun n => (okIf (rgOk m n) (rgD m n)).bind fun xs => R.ok (if t = true then (D.tup xs, false) else (D.lst xs, true)) := by
    cases intR (f ρ) <;> cases intR (g ρ) <;> rfl
  dsimp only at h
  rw [e] at h
  exact kE_intE hb h fun m H1 s hb1 h1 => ⟨ρ, O, hb1, hr.same s, kE_intE hb1 h1 fun n H2 s2 hb2 h2 => ⟨m, n, rfl, rfl, rg_end hb2 h2⟩⟩
/-! sorted(set(..)) -/
theorem de_srs {a : Expr} {f : Ev → R DB} {p p2 pos pos2 : Pos} (hK : X.K = G.K) (hc : X.calm = true) (hg : Gl X "sorted") (hm : X.mg "sorted" = none) (hgs : Gl X "set") (hms : X.mg "set" = none) (ha : PE X a (rdE G W f)) (hs : starEach [a] X.env = (false, eval a X.env) :: starEach [] X.env) :
    PE X (.Call (.Name "sorted" p) [.Call (.Name "set" p2) [a] [] pos2] [] pos) (rdE G W fun ρ => (f ρ).bind fun x => srsD x.1) := by
  refine PE_imp (pe_callB (cr_sortedSet hc) hg hm (by decide +kernel) (pa_cons (pe_callTy (cr_setL hc) hgs hms PyProof.Rows.boot_set (pa_cons ha pa_nil hs) (by decide +kernel) (by decide +kernel) hs rfl) pa_nil rfl) (by decide +kernel) (by decide +kernel) rfl rfl) fun σ H Q ⟨ρ, O, hb, hr, h⟩ => ⟨ρ, O, hb, hr, kE_bind hb h fun d v H1 _ s hb1 r h1 => ?_⟩
  have r' := r.den hb
  obtain ⟨d1, d2⟩ := d
  simp only [srsD] at h1 r'
  cases r' with
  | @lst q xs ds e n rr =>
    simp only at h1
    cases ei : ints? ds with
    | none => rw [ei] at h1; exact False.elim h1
    | some zs =>
      rw [ei] at h1
      dsimp only at h1
      obtain ⟨e1, _⟩ := rr.ints ei
      subst e1
      by_cases h60 : zs.length ≤ 60
      · rw [decide_eq_true h60, okIf_true] at h1
        refine ⟨q, zs, rfl, .inl (.inl e), h60, fun p c hcc hp => ⟨p, _, c, rfl, upd_same, by omega, fun ms p2 h2 h3 h4 hp2 => ?_⟩⟩
        have em : ms = sortU zs := sortU_uniq h2 fun k => (h3 k).trans (by simp)
        rw [em]
        have hb2 : Bnd G O (upd H1 p (SetO X.w p (fun j => decide (j ∈ zs)) c)) := hb1.same (same_new hp)
        exact h1 _ _ ((same_new hp).trans (same_new hp2)) (Res.back (same_new hp) (Res.mk hp2 hb2 (DenL.ofInts _)))
      · rw [decide_eq_false h60] at h1
        exact False.elim h1
  | _ => exact False.elim h1
end
end SS

set_option maxRecDepth 100000
set_option maxHeartbeats 4000000
/-! SSY: sorted(x, key=lambda one: 0 - len(one)) -/
namespace SS
open PySem PySem.Spec PyProof.Rows L2
def pOne : Str := "one"
/-- the lambda's parameters and body -/
abbrev lamP (ann : Option Expr) (ap : Pos) : Arguments := ⟨[], [⟨pOne, ann, ap⟩], none, [], [], none, []⟩
abbrev lamB (l : Str) (j : Nat) (cp bp lp yp callp : Pos) : Expr := .BinOp (.Constant (.int 0) j cp) .Sub (.Call (.Name l lp) [.Name pOne yp] [] callp) bp
theorem lam_bind {qual : Str} {ann : Option Expr} {ap : Pos} {body : Expr} {scope : Scope} {pm cdv ctv v : Value} : bindArgs (PySem.W.kla_fn "<lambda>" qual (lamP ann ap) body scope [] pm cdv ctv) ⟨[v], []⟩ = pure [(pOne, v)] := by rfl
structure LamOk (scope : Scope) (l : Str) : Prop where
  k : scope.kind = .function
  co : scope.isCoroutine = false
  gen : scope.isGenerator = false
  cell : ∀ x ∈ scope.names, x.2 ≠ .cell
  free : ∀ x ∈ scope.names, x.2 ≠ .free
  hy : scope.names.lookup pOne = some .local
  hl : scope.names.lookup l = some .globalImplicit
  hd : (l == ("__debug__" : Str)) = false
section
variable {P : Program} {w : World} {A : Around} {s : Shared}
/-- the lambda is called at a tuple -/
theorem lam_call {mg mb : Str → Option Value} {f c' t : Addr} {items : Array Value} {qual l : Str} {ann : Option Expr} {ap cp bp lp yp callp : Pos} {j : Nat} {scope : Scope} {pm ctv : Value}
    (hroom : A.depth < recursionLimit)
    (hf : s.heap.get? f = some (PySem.W.kla_obj "<lambda>" qual (lamP ann ap) (lamB l j cp bp lp yp callp) scope [] pm c' ctv))
    (hcd : s.heap.CodeRec (.ref c') qual) (hg : s.heap.Ns mainGlobals mg) (hm : mg l = none) (hb : s.heap.Ns builtinsNs mb) (hbb : mb l = some (.builtin "len")) (lim : s.heap.NoLimit)
    (ht : IsTup s.heap t items) (hz : items.size < 16777217) (L : LamOk scope l) :
    wpAny (model P w) A (PySem.call (.ref f) [.ref t]) (PySem.W.KeyPure (.int (0 - (items.size : Int))) s) (fun _ _ => False) s := by
  refine wpAny_call (PySem.W.kla_callFunE hroom hf rfl L.co L.gen rfl hcd ?_)
  rw [lam_bind]
  refine wpAny_pure (wpAny_newFunctionEnv L.cell (fun x hx => by simp at hx; subst hx; exact L.hy) (fun h₁ hns hsb => ⟨lim.fresh _ hsb, ?_⟩) L.k)
  have kp : ∀ b o, s.heap.get? b = some o → h₁.get? b = some o := fun b o e => hsb.extBut b o (Nat.ne_of_lt (Heap.lt_size e)) (Heap.get?_push_of_some _ e)
  refine PySem.W.kla_codeExpr ?_
  refine wpAny_BinOp (wpAny_Constant_int ?_)
  refine wpAny_Call_Name_kw (Calls.Name_function_global L.k L.hl (Calls.loadGlobal_builtin (hg.keeps kp) hm (hb.keeps kp) hbb ?_) L.hd)
  refine PyProof.Rows.callWith_builtin1 ?_ rfl rfl
  refine Calls.spliced_cons (x := eval (.Name pOne yp) (PySem.W.envX qual scope s.heap.objs.size f (.ref c') [])) ?_
  refine wpAny_Name (wpAny_loadName_local (v := .ref t) L.k L.hy hns (by simp) ?_) (by decide)
  refine Calls.spliced_nil ?_
  refine PyProof.Rows.len_tuple (ht.keeps kp) (by omega) ?_
  refine sub_int ?_
  exact ⟨_, _, rfl, kp, .int _ _⟩
end
/-- what the making of lambdas in a def leans on -/
structure LamAt (G : Gb) (X : Cx) (c P : Addr) : Prop where
  tb : LamX.TabB X.base X.mg c P
  code : X.env.code = .ref c
  mem : (P, X.env.qual ++ "<lambda>") ∈ G.tabs
  uq : ∀ p ∈ G.tabs, p.1 = P → p.2 = X.env.qual ++ "<lambda>"
theorem clo_nil {cells : List (Str × Addr)} : ∀ {ns : List (Str × NameKind)}, (∀ y ∈ ns, y.2 ≠ .free) → cloFrom cells ns [] = []
  | [], _ => rfl
  | (x, k) :: r, h => by
    have ih := clo_nil (cells := cells) fun y hy => h y (List.mem_cons_of_mem (x, k) hy)
    have hk : k ≠ .free := h (x, k) List.mem_cons_self
    cases k <;> first | exact absurd rfl hk | exact ih
section
variable {G : Gb} {X : Cx} {pins : List (Addr × Obj)} {σ : Sg} {H : Hp} {s : Shared}
theorem lam_mk {c P : Addr} {params : Arguments} {body : Expr} {scope : Scope} {pos : Pos} {E Q : Value → Shared → Prop} (I : Inv X pins σ H s) (L : LamAt G X c P) (hT : LamX.Tabs G.tabs H) (hd : defaultsOf params X.env = ([], [])) (nf : ∀ y ∈ scope.names, y.2 ≠ .free)
    (K : ∀ (f c' : Addr) (pm ctv : Value) (H1 : Hp) (s1 : Shared), Inv X pins σ H1 s1 → Same G H H1 → s1.heap.get? f = some (PySem.W.kla_obj "<lambda>" (X.env.qual ++ "<lambda>") params body scope [] pm c' ctv) → H1 c' = some (LamX.CodeO c' (X.env.qual ++ "<lambda>")) → Q (.ref f) s1) :
    wpAny (model X.prog X.w) X.A (eval (.Lambda params body scope pos) X.env) Q E s := by
  obtain ⟨ps, e1, ht, ha⟩ := hT _ L.mem
  have hP := I.hok P _ e1
  have cl : closureFor scope X.env = pure [] := by
    have := closure_ok (scope := scope) (env := X.env) fun y hy z => absurd z (nf y hy)
    rw [clo_nil nf] at this
    exact this
  refine PySem.W.kla_eval hd ?_
  cases hc : codeAmong pos ps.toList with
  | some cv =>
    obtain ⟨c', e, eo⟩ := ha pos cv hc
    subst e
    refine PySem.W.kla_makeFunctionHit (mg := X.mg) (P := P) cl I.ok.glob (I.mod.glob.keeps I.bk) L.code (L.tb.code.keeps I.bk) hP ht hc (L.tb.bm.keeps I.bk) fun ctv g tk old _ => ?_
    exact K _ c' _ ctv H _ (I.kept fun b o z => Heap.get?_push_of_some _ (old b o z)) (Same.refl H) (Heap.get?_push_size g rfl) eo
  | none =>
    refine PySem.W.kla_makeFunction (mg := X.mg) (P := P) cl I.ok.glob (I.mod.glob.keeps I.bk) L.code (L.tb.code.keeps I.bk) hP ht hc L.tb.gP (L.tb.bm.keeps I.bk) fun c' ctv g tk old ge lt rec tab => ?_
    obtain ⟨_, oc, vs, t, q1, q2, q3, q4⟩ := rec
    cases q1
    have fr : H c' = none := I.hok.fresh ge
    have J := LamX.inv_table (t' := tk) (h' := g.push (PySem.W.kla_obj "<lambda>" (X.env.qual ++ "<lambda>") params body scope [] ((X.mg "__name__").getD .none) c' ctv)) (more := #[rawInt pos.line, rawInt pos.col, .ref c']) I e1
      (fun b o hb z => Heap.get?_push_of_some _ (old b o hb z)) (Heap.get?_push_of_some _ tab) ge ⟨oc, vs, t, Heap.get?_push_of_some _ q2, q3, q4⟩
    have nP : P ≠ c' := fun z => by rw [z, fr] at e1; cases e1
    have ob : ∀ b o, H b = some o → nt o → upd (upd H P (.tbl (ps ++ #[rawInt pos.line, rawInt pos.col, .ref c']))) c' (LamX.CodeO c' (X.env.qual ++ "<lambda>")) b = some o := fun b o z n => by
      have b1 : b ≠ c' := fun y => by rw [y, fr] at z; cases z
      have b2 : b ≠ P := fun y => by
        rw [y, e1] at z
        cases z
        exact n
      rw [upd_ne b1, upd_ne b2]
      exact z
    have co : ∀ c q, nt (LamX.CodeO c q) := fun _ _ => trivial
    refine K g.objs.size c' _ ctv _ _ J ⟨ob, fun p hp tp => ?_, fun b z => ?_⟩ (Heap.get?_push_size g rfl) upd_same
    · by_cases hb : p.1 = P
      · have hq := L.uq p hp hb
        rw [hb, hq]
        refine ⟨ps ++ #[rawInt pos.line, rawInt pos.col, .ref c'], (upd_ne nP).trans upd_same, ?_, fun pos' cv hcv => ?_⟩
        · rw [Array.toList_append]
          exact PySem.TriplesOk_snoc _ _ _ _ ht
        · rw [Array.toList_append] at hcv
          rcases LamX.among_app _ ht hcv with z | z
          · obtain ⟨c0, z1, z2⟩ := ha pos' cv z
            exact ⟨c0, z1, ob _ _ z2 (co _ _)⟩
          · exact ⟨c', z, upd_same⟩
      · obtain ⟨qs, a1, a2, a3⟩ := tp
        have b1 : p.1 ≠ c' := fun y => by rw [y, fr] at a1; cases a1
        refine ⟨qs, by rw [upd_ne b1, upd_ne hb]; exact a1, a2, fun pos' cv z => ?_⟩
        obtain ⟨c0, z1, z2⟩ := a3 pos' cv z
        exact ⟨c0, z1, ob _ _ z2 (co _ _)⟩
    · by_cases b1 : b = c'
      · rw [b1, upd_same]; simp
      · by_cases b2 : b = P
        · rw [upd_ne b1, b2, upd_same]; simp
        · rw [upd_ne b1, upd_ne b2]; exact z
end
section
variable {G : Gb} {W : WX} {X : Cx}
theorem each_of {R : Value → D × V → Prop} : ∀ {ds : List D} {xs : List V} {us : List Value}, ds.length = xs.length → Vals xs us → (∀ (i : Nat) (d : D) (x : V) (u : Value), ds[i]? = some d → xs[i]? = some x → us[i]? = some u → RelV x u → R u (d, x)) → PySem.W.EachIs R us (ds.zip xs)
  | [], [], _, _, .nil, _ => .nil
  | d :: ds, x :: xs, u :: us, h, .cons r t, k => .cons (k 0 d x u rfl rfl rfl r) (each_of (by simpa using h) t fun i d x u h1 h2 h3 => k (i + 1) d x u (by simpa using h1) (by simpa using h2) (by simpa using h3))
  | [], _ :: _, _, h, _, _ => by simp at h
  | _ :: _, [], _, h, _, _ => by simp at h
theorem each_back {Rd : D → V → Prop} : ∀ {us : List Value} {bs : List (D × V)}, PySem.W.EachIs (fun u b => RelV b.2 u ∧ Rd b.1 b.2) us bs → Vals (bs.map (·.2)) us ∧ ∀ b ∈ bs, Rd b.1 b.2
  | _, _, .nil => ⟨.nil, fun _ h => by simp at h⟩
  | _, _, .cons h t => by
    obtain ⟨h1, h2⟩ := each_back t
    exact ⟨.cons h.1 h1, fun b hb => by
      rcases List.mem_cons.mp hb with rfl | hb
      · exact h.2
      · exact h2 b hb⟩
theorem denL_of {H : Hp} {O : Addr → Prop} : ∀ {bs : List (D × V)}, (∀ b ∈ bs, Den G H O b.1 b.2) → DenL G H O (bs.map (·.1)) (bs.map (·.2))
  | [], _ => .nil
  | b :: bs, h => .cons (h b List.mem_cons_self) (denL_of fun x hx => h x (List.mem_cons_of_mem _ hx))
theorem zip_fst {α β : Type} : ∀ {xs : List α} {ys : List β}, xs.length = ys.length → (xs.zip ys).map (·.1) = xs
  | [], [], _ => rfl
  | x :: xs, y :: ys, h => by simp [zip_fst (xs := xs) (ys := ys) (by simpa using h)]
  | [], _ :: _, h => by simp at h
  | _ :: _, [], h => by simp at h
theorem le_neg (a b : Nat) : decide ((0 : Int) - (a : Int) ≤ 0 - (b : Int)) = decide (b ≤ a) := by
  by_cases h : b ≤ a
  · rw [decide_eq_true h, decide_eq_true (by omega)]
  · rw [decide_eq_false h, decide_eq_false (by omega)]
theorem de_srl {k : Nat} {a : Expr} {f : Ev → R DB} {c P : Addr} {l : Str} {ann : Option Expr} {ap cp bp lp yp callp lpos kpos p pos : Pos} {j : Nat} {scope : Scope} (hK : X.K = G.K) (hc : X.calm = true) (hg : Gl X "sorted") (hm : X.mg "sorted" = none) (hml : X.mg l = none) (hbl : bootBuiltins l = some (.builtin "len")) (hln : l ≠ "__name__")
    (ha : PE X a (rdE G W f)) (hs : starEach [a] X.env = (false, eval a X.env) :: starEach [] X.env) (hr : Room k X.A) (L : LamAt G X c P) (M : LamOk scope l) :
    PE X (.Call (.Name "sorted" p) [a] [⟨some "key", .Lambda (lamP ann ap) (lamB l j cp bp lp yp callp) scope lpos, kpos⟩] pos) (rdE G W fun ρ => (f ρ).bind fun x => srlD x.1) := by
  refine ⟨fun pins s σ H Q I ⟨ρ, O, hb, hr', h⟩ => ?_⟩
  have h1 : tCons (rdE G W f) tNil σ H (fun vs H1 => ∃ v d, vs = [v] ∧ Bnd G O H1 ∧ Den G H1 O d v ∧ kE G W σ O H1 Q (srlD d)) := ⟨ρ, O, hb, hr', kE_bind hb h fun d v H1 _ s1 hb1 r h1 => ⟨v, d.1, rfl, hb1, r.den hb, h1⟩⟩
  refine wpAny_Call_Name_kw (ld_blt I hg hm (u := .builtin "sorted") (by decide +kernel) ?_ (by decide +kernel) (by decide +kernel))
  refine PyProof.Rows.callWith_kw (thn ((pa_cons ha pa_nil hs).run pos pins s σ H _ I h1) fun us s1 ⟨vs, H1, I1, r1, v, d, ev, hb1, dd, h2⟩ => ?_) (by rw [hs]; rfl) (by rw [hs]; rfl) rfl rfl
  subst ev
  obtain ⟨u, rfl, ru⟩ := vals1 r1
  cases dd with
  | @lst a1 xs ds q1 nO rr =>
    cases ru
    unfold srlD at h2
    by_cases hall : ds.all isTp = true
    · dsimp only at h2
      rw [hall, okIf_true] at h2
      show wpAny _ _ (evalAll ((do let v ← eval (.Lambda (lamP ann ap) (lamB l j cp bp lp yp callp) scope lpos) X.env; standAt pos; pure v) :: [])) _ _ s1
      refine wpAny_evalAll_cons (wpAny_bind (lam_mk I1 L hb1.tabs rfl M.free fun fa c' pm ctv H2 s2 I2 s12 hf hco => wpAny_bind (wpAny_standAt (wpAny_pure (wpAny_evalAll_nil ?_)))))
      have q2 := s12.g q1
      obtain ⟨its, rv, pl, hz⟩ := I2.list (.inl (.inl q2))
      have hb2 := hb1.same s12
      have rr2 := rr.same s12
      have hlen := rr.length
      have hl2 := rv.length
      have hzs : xs.length ≤ sizeLine := hz
      have all := List.all_eq_true.mp hall
      obtain ⟨⟨oc, cvs, ct, o1, o2, o3⟩, _⟩ := I2.hok c' _ hco
      obtain ⟨mb, hmb1, hmb2⟩ := I2.mod.blt
      have ez : (ds.zip xs).length = xs.length := by rw [List.length_zip, hlen, Nat.min_self]
      refine PySem.W.sorted_key_data (β := D × V) (f := .ref fa) (b := false) (R := fun u b => RelV b.2 u ∧ (Den G H2 O b.1 b.2 ∧ ∃ t ys, b.2 = .ref t ∧ SqT X.K H2 t ys ∧ ys.length = tln b.1)) (fun b => .int (0 - (tln b.1 : Int))) pl.isList
        (each_of hlen rv fun i d x u e1 e2 e3 r => ?_) (PySem.W.AllAlike.of fun _ _ => by simp [PySem.W.alike]) (PySem.W.Sortable.others fun _ => ⟨by simp, by simp⟩) (by rw [ez]; exact hzs) (fun b hb => ?_) (PyProof.Rows.ksk_s1 _ _) (fun _ => PyProof.Rows.ksk_l1 _ _) (PyProof.Rows.ksk_t1 _)
        (fun v b hR hx hp tk kp => ?_) (fun out cc h' tk kp nn ho hl er => ?_)
      · obtain ⟨x', g1, g2⟩ := rr2.get e1
        rw [e2] at g1
        cases g1
        refine ⟨r, g2, ?_⟩
        have td := all d (List.mem_of_getElem? e1)
        cases g2 with
        | tup zd z rz => exact ⟨_, _, rfl, tO_sq z, by show _ = List.length _; rw [rz.length]⟩
        | _ => cases td
      · have := hr.un
        show X.A.units + 2 + PyData.depth (.int _) < cLine
        simp only [PyData.depth]
        omega
      · obtain ⟨r0, dn, t, ys, ev, et, el⟩ := hR
        rw [ev] at r0
        cases r0
        obtain ⟨uits, ur, up, uz⟩ := I2.tuple et
        have ul := ur.length
        have sl := sizeLine_eq
        have key := lam_call (P := X.prog) (w := X.w) (A := X.A.in1.in1) (s := { s2 with heap := hp, toks := tk }) (mg := X.mg) (mb := mb) (items := uits.toArray) (t := t) hr.depth (kp _ _ hf) ⟨c', oc, cvs, ct, rfl, kp _ _ o1, o2, o3⟩
          ((I2.mod.glob.keeps I2.bk).keeps kp) hml ((hmb1.keeps I2.bk).keeps kp) ((hmb2 l hln).trans hbl) (I2.nolimit.keeps kp) (up.keeps kp) (by rw [List.size_toArray]; omega) M
        have e0 : (uits.toArray.size : Int) = (tln b.1 : Int) := by rw [List.size_toArray]; omega
        rw [e0] at key
        exact key
      · obtain ⟨v1, v2⟩ := each_back (Rd := fun d v => Den G H2 O d v ∧ ∃ t ys, v = .ref t ∧ SqT X.K H2 t ys ∧ ys.length = tln d) er
        have pm := List.mergeSort_perm (ds.zip xs) (PySem.W.dataLe false fun b : D × V => PyData.int (0 - (tln b.1 : Int)))
        have dl : DenL G H2 O (((ds.zip xs).mergeSort (PySem.W.dataLe false fun b : D × V => PyData.int (0 - (tln b.1 : Int)))).map (·.1)) (((ds.zip xs).mergeSort (PySem.W.dataLe false fun b : D × V => PyData.int (0 - (tln b.1 : Int)))).map (·.2)) := denL_of fun b hb => (v2 b hb).1
        have eD : ((ds.zip xs).mergeSort (PySem.W.dataLe false fun b : D × V => PyData.int (0 - (tln b.1 : Int)))).map (·.1) = ds.mergeSort fun a b => decide (tln b ≤ tln a) := by
          rw [List.map_mergeSort (s := fun a b => decide (tln b ≤ tln a)) fun a _ b _ => ?_, zip_fst hlen]
          rw [PySem.W.dataLe_int]
          exact le_neg _ _
        have hp : H2 (s2.heap.objs.size + 1) = none := I2.hok.fresh (Nat.le_succ _)
        refine ⟨.ref (s2.heap.objs.size + 1), upd H2 (s2.heap.objs.size + 1) (.lst _), I2.laid kp (Nat.le_succ _) ⟨?_, out, cc, v1, ho⟩, rfl, h2 _ _ (s12.trans (same_new hp)) ?_⟩
        · rw [List.length_map, pm.length_eq, ez]
          exact hzs
        · have := Res.mk hp hb2 dl
          rw [eD] at this
          exact this.back s12
    · dsimp only at h2
      rw [Bool.not_eq_true _ |>.mp hall] at h2
      exact False.elim h2
  | _ => exact False.elim h2
end
end SS

set_option maxRecDepth 100000
set_option maxHeartbeats 4000000
/-! SSH: targets and comprehensions -/
namespace SS
open PySem PySem.Spec PyProof.Rows L2
def tgSlots : Tg → List Nat
  | .nm i => [i]
  | .tp2 a b => tgSlots a ++ tgSlots b
  | .tp3 a b c => tgSlots a ++ tgSlots b ++ tgSlots c
theorem wipe_get {σ : Sg} : ∀ (vs : List Nat) (j : Nat), (wipe σ vs)[j]? = if j ∈ vs ∧ j < σ.length then some none else σ[j]?
  | [], j => by simp [wipe]
  | v :: vs, j => by
    unfold wipe
    rw [List.getElem?_set, wipe_get vs j, wipe_length]
    by_cases h : v = j
    · subst h
      simp
      by_cases h2 : v < σ.length
      · simp [h2]
      · simp [h2]
    · have h' : ¬ j = v := fun e => h e.symm
      simp [h, h']
theorem wipeE_length {ρ : Ev} : ∀ vs : List Nat, (wipeE ρ vs).length = ρ.length
  | [] => rfl
  | v :: vs => by unfold wipeE; rw [List.length_set, wipeE_length vs]
theorem wipeE_get {ρ : Ev} : ∀ (vs : List Nat) (j : Nat), (wipeE ρ vs)[j]? = if j ∈ vs ∧ j < ρ.length then some none else ρ[j]?
  | [], j => by simp [wipeE]
  | v :: vs, j => by
    unfold wipeE
    rw [List.getElem?_set, wipeE_get vs j, wipeE_length]
    by_cases h : v = j
    · subst h
      simp
      by_cases h2 : v < ρ.length
      · simp [h2]
      · simp [h2]
    · have h' : ¬ j = v := fun e => h e.symm
      simp [h, h']
theorem wipe_set {σ : Sg} {i : Nat} {x : Option V} {vs : List Nat} (h : i ∈ vs) : wipe (σ.set i x) vs = wipe σ vs := by
  refine List.ext_getElem? fun j => ?_
  rw [wipe_get, wipe_get, List.length_set]
  by_cases hj : j ∈ vs ∧ j < σ.length
  · rw [if_pos hj, if_pos hj]
  · rw [if_neg hj, if_neg hj, List.getElem?_set]
    by_cases e : i = j
    · subst e
      simp only [if_pos]
      have hl : ¬ i < σ.length := fun z => hj ⟨h, z⟩
      rw [if_neg hl]
      exact (List.getElem?_eq_none (by omega)).symm
    · rw [if_neg e]
section
variable {G : Gb} {X : Cx} {W : WX}
theorem Rd.wipe {ρ : Ev} {σ : Sg} {H : Hp} {O : Addr → Prop} (h : Rd G ρ σ H O) (vs : List Nat) : Rd G (wipeE ρ vs) (L2.wipe σ vs) H O := by
  refine ⟨by rw [wipeE_length, wipe_length]; exact h.1, fun i d e => ?_⟩
  rw [wipeE_get] at e
  rw [wipe_get]
  by_cases hj : i ∈ vs ∧ i < ρ.length
  · rw [if_pos hj] at e; cases e
  · rw [if_neg hj] at e
    rw [if_neg (by rw [← h.1]; exact hj)]
    exact h.2 i d e
theorem Rd.avoid {ρ : Ev} {σ : Sg} {H : Hp} {O O' : Addr → Prop} (h : Rd G ρ σ H O) (k : ∀ a, O' a → O a ∨ H a = none) : Rd G ρ σ H O' :=
  ⟨h.1, fun i d e => let ⟨v, h1, h2⟩ := h.2 i d e; ⟨v, h1, h2.tr (Tr.same (G := G) (Same.refl _) k)⟩⟩
theorem Rd.set {ρ : Ev} {σ : Sg} {H : Hp} {O : Addr → Prop} {i : Nat} {d : D} {v : V} (h : Rd G ρ σ H O) (r : Den G H O d v) : Rd G (ρ.set i (some d)) (σ.set i (some v)) H O := by
  refine ⟨by rw [List.length_set, List.length_set]; exact h.1, fun j e hj => ?_⟩
  rw [List.getElem?_set] at hj ⊢
  by_cases c : i = j
  · subst c
    simp only [if_pos] at hj ⊢
    split at hj
    · rename_i hl
      cases hj
      exact ⟨v, by rw [if_pos (by rw [← h.1]; exact hl)], r⟩
    · cases hj
  · rw [if_neg c] at hj
    obtain ⟨w, h1, h2⟩ := h.2 j e hj
    exact ⟨w, by rw [if_neg c]; exact h1, h2⟩
/-! ### targets -/
def rdG (G : Gb) (tg : Tg) : TG := fun v σ H Q => ∃ (O : Addr → Prop) (d : D) (ρ ρ' : Ev), Bnd G O H ∧ Den G H O d v ∧ Rd G ρ σ H O ∧ bindTg tg d ρ = some ρ' ∧
  ∀ σ', Rd G ρ' σ' H O → (∀ vs, (∀ i ∈ tgSlots tg, i ∈ vs) → wipe σ' vs = wipe σ vs) → Q σ' H
theorem PG_imp {tg : Expr} {t t' : TG} (h : PG X tg t) (k : ∀ v σ H Q, t' v σ H Q → t v σ H Q) : PG X tg t' := ⟨fun pins s σ H v u Q I r q => h.run pins s σ H v u Q I r (k _ _ _ _ q)⟩
theorem dg_nm {i : Nat} {x : Str} {pos : Pos} (hN : X.N.Nodup) (hi : X.N[i]? = some x) (hx : Loc X.env.scope x) (hf : X.fn x = true ∨ X.env.scope.names.lookup x = some .local) : PG X (.Name x pos) (rdG G (.nm i)) := by
  refine PG_imp (pg_name hN hi hx hf) fun v σ H Q ⟨O, d, ρ, ρ', hb, hd, hr, e, k⟩ => ?_
  have e' : ρ.set i (some d) = ρ' := Option.some.inj e
  subst e'
  exact k _ (hr.set hd) fun vs hv => wipe_set (hv i (by simp [tgSlots]))
theorem dg_tp2 {a b : Expr} {ta tb : Tg} {k : Nat} {pos : Pos} (hK : X.K = G.K) (hc : X.calm = true) (ha : PG X a (rdG G ta)) (hb : PG X b (rdG G tb))
    (h1 : assignEach [b] X.env = [(false, assign b X.env)]) (h2 : assignEach [a, b] X.env = [(false, assign a X.env), (false, assign b X.env)]) : PG X (.Tuple [a, b] k pos) (rdG G (.tp2 ta tb)) := by
  refine PG_imp (pg_tup hc (pgs_cons ha (pgs_cons hb pgs_nil (by rw [h1] <;> rfl)) (by rw [h2, h1] <;> rfl)) (by rw [h2] <;> rfl) (by rw [h2] <;> rfl)) fun v σ H Q ⟨O, d, ρ, ρ', hb, hd, hr, e, k⟩ => ?_
  cases hd with
  | @tup p xs ds _ hd qd r =>
    have q : SqT G.K _ p xs := tO_sq qd
    cases r with
    | nil => simp [bindTg] at e
    | cons r1 r2 =>
      cases r2 with
      | nil => simp [bindTg] at e
      | cons r3 r4 =>
        cases r4 with
        | cons _ _ => simp [bindTg] at e
        | nil =>
          simp only [bindTg] at e
          obtain ⟨ρ1, e1, e2⟩ := Option.bind_eq_some_iff.mp e
          rw [← hK] at q
          refine ⟨p, _, rfl, q, rfl, _, _, rfl, O, _, ρ, ρ1, hb, r1, hr, e1, fun σ1 hr1 hw1 => ⟨_, _, rfl, O, _, ρ1, ρ', hb, r3, hr1, e2, fun σ2 hr2 hw2 => ⟨rfl, k σ2 hr2 fun vs hv => ?_⟩⟩⟩
          rw [hw2 vs fun i hi => hv i (List.mem_append_right _ hi), hw1 vs fun i hi => hv i (List.mem_append_left _ hi)]
  | _ => simp [bindTg] at e
theorem dg_tp3 {a b c : Expr} {ta tb tc : Tg} {k : Nat} {pos : Pos} (hK : X.K = G.K) (hc : X.calm = true) (ha : PG X a (rdG G ta)) (hb : PG X b (rdG G tb)) (hcc : PG X c (rdG G tc))
    (h0 : assignEach [c] X.env = [(false, assign c X.env)]) (h1 : assignEach [b, c] X.env = [(false, assign b X.env), (false, assign c X.env)]) (h2 : assignEach [a, b, c] X.env = [(false, assign a X.env), (false, assign b X.env), (false, assign c X.env)]) :
    PG X (.Tuple [a, b, c] k pos) (rdG G (.tp3 ta tb tc)) := by
  refine PG_imp (pg_tup hc (pgs_cons ha (pgs_cons hb (pgs_cons hcc pgs_nil (by rw [h0] <;> rfl)) (by rw [h1, h0] <;> rfl)) (by rw [h2, h1] <;> rfl)) (by rw [h2] <;> rfl) (by rw [h2] <;> rfl)) fun v σ H Q ⟨O, d, ρ, ρ', hb, hd, hr, e, k⟩ => ?_
  cases hd with
  | @tup p xs ds _ hd qd r =>
    have q : SqT G.K _ p xs := tO_sq qd
    cases r with
    | nil => simp [bindTg] at e
    | cons r1 r2 =>
      cases r2 with
      | nil => simp [bindTg] at e
      | cons r3 r4 =>
        cases r4 with
        | nil => simp [bindTg] at e
        | cons r5 r6 =>
          cases r6 with
          | cons _ _ => simp [bindTg] at e
          | nil =>
            simp only [bindTg] at e
            obtain ⟨ρ2, e1, e3⟩ := Option.bind_eq_some_iff.mp e
            obtain ⟨ρ1, e1, e2⟩ := Option.bind_eq_some_iff.mp e1
            rw [← hK] at q
            refine ⟨p, _, rfl, q, rfl, _, _, rfl, O, _, ρ, ρ1, hb, r1, hr, e1, fun σ1 hr1 hw1 => ⟨_, _, rfl, O, _, ρ1, ρ2, hb, r3, hr1, e2, fun σ2 hr2 hw2 => ⟨_, _, rfl, O, _, ρ2, ρ', hb, r5, hr2, e3, fun σ3 hr3 hw3 => ⟨rfl, k σ3 hr3 fun vs hv => ?_⟩⟩⟩⟩
            rw [hw3 vs fun i hi => hv i (List.mem_append_right _ hi), hw2 vs fun i hi => hv i (List.mem_append_left _ (List.mem_append_right _ hi)), hw1 vs fun i hi => hv i (List.mem_append_left _ (List.mem_append_left _ hi))]
  | _ => simp [bindTg] at e

/-! ### comprehensions -/
theorem compL_append {f : D → R (Option D)} : ∀ {a b : List D}, compL f (a ++ b) = (compL f a).bind fun ya => (compL f b).bind fun yb => .ok (ya ++ yb)
  | [], b => by
    simp only [List.nil_append, compL, R.bind_ok]
    cases compL f b <;> rfl
  | x :: a, b => by
    simp only [List.cons_append, compL, compL_append (a := a)]
    cases f x with
    | ok o =>
      simp only [R.bind_ok]
      cases compL f a with
      | ok ya =>
        simp only [R.bind_ok]
        cases compL f b with
        | ok yb => cases o <;> rfl
        | err c => rfl
        | bad => rfl
      | err c => rfl
      | bad => rfl
    | err c => rfl
    | bad => rfl
theorem compL_step {f : D → R (Option D)} {xs ys : List D} {i : Nat} {d : D} (h : compL f xs = .ok ys) (hd : xs[i]? = some d) :
    ∃ ya o, compL f (xs.take i) = .ok ya ∧ f d = .ok o ∧ compL f (xs.take (i + 1)) = .ok (ya ++ o.toList) := by
  have hi : i < xs.length := (List.getElem?_eq_some_iff.mp hd).1
  have e1 : xs.take (i + 1) = xs.take i ++ [d] := by
    rw [List.take_add_one, hd]; rfl
  have e0 : xs = xs.take (i + 1) ++ xs.drop (i + 1) := (List.take_append_drop _ _).symm
  rw [e0, compL_append] at h
  cases h1 : compL f (xs.take (i + 1)) with
  | ok z =>
    rw [e1, compL_append] at h1
    cases h2 : compL f (xs.take i) with
    | ok ya =>
      rw [h2] at h1
      simp only [R.bind_ok, compL] at h1
      cases h3 : f d with
      | ok o =>
        rw [h3] at h1
        refine ⟨ya, o, rfl, rfl, ?_⟩
        cases o <;> exact h1.symm
      | err c => rw [h3] at h1; cases h1
      | bad => rw [h3] at h1; cases h1
    | err c => rw [h2] at h1; cases h1
    | bad => rw [h2] at h1; cases h1
  | err c => rw [h1] at h; cases h
  | bad => rw [h1] at h; cases h
theorem bx_tup {o : HO} {xs : List V} (b : isBx o) : HO.tup xs ≠ o := fun z => by rw [← z] at b; exact b
theorem bx_frz {o v : HO} {u : Obj} (b : isBx o) : HO.frz u v ≠ o := fun z => by rw [← z] at b; exact b
theorem Tr.writeB {H : Hp} {O : Addr → Prop} {a : Addr} {o' o : HO} (b : isBx o') (e : H a = some o') (h : O a) : Tr H O (upd H a o) O :=
  ⟨fun c ys q => by rw [upd_ne (ne_of q e (bx_tup b))]; exact q, fun c ob u q => by rw [upd_ne (ne_of q e (bx_frz b))]; exact q,
    fun c ys _ q n => ⟨by rw [upd_ne (fun z : c = a => n (by rw [z]; exact h))]; exact q, n⟩⟩
theorem Tr.write {H : Hp} {O : Addr → Prop} {a : Addr} {xs : List V} {o : HO} (e : H a = some (.lst xs)) (h : O a) : Tr H O (upd H a o) O := Tr.writeB (o' := .lst xs) trivial e h
abbrev W0 : WX := fun _ _ _ _ => False
def turnF (tg : Tg) (ft : Ev → R Bool) (fe : Ev → R DB) (vs : List Nat) (ρ : Ev) (x : D) : R (Option D) := match bindTg tg x (wipeE ρ vs) with
  | some ρ' => (ft ρ').bind fun c => if c = true then (fe ρ').bind fun y => .ok (some y.1) else .ok none
  | none => .bad
theorem rd_comp {fs : Ev → R (List D)} {tg : Tg} {ft : Ev → R Bool} {fe : Ev → R DB} {vs : List Nat} {tt : TT} (htt : ∀ σ H Q, rdT G W0 ft σ H Q → tt σ H Q) (hts : ∀ i ∈ tgSlots tg, i ∈ vs) {σ : Sg} {H : Hp} {Q : VK}
    (h : rdE G W (fun ρ => (fs ρ).bind fun xs => noErr ((compL (turnF tg ft fe vs ρ) xs).bind fun ys => .ok (.lst ys, true))) σ H Q) :
    tLc (rdS G W fs) (rdG G tg) tt (rdE G W0 fe) vs σ H Q := by
  obtain ⟨ρ, O, hb, hr, h⟩ := h
  refine ⟨ρ, O, hb, hr, ?_⟩
  cases efs : fs ρ with
  | err c => simp only [efs, R.bind_err] at h; exact h
  | bad => simp only [efs, R.bind_bad] at h; exact h
  | ok items =>
    simp only [efs, R.bind_ok] at h
    intro J H1 s1 hlen hIt D hD
    have hb1 := hb.same s1
    have hr1 := hr.same s1
    generalize ef : turnF tg ft fe vs ρ = f at h
    cases ec : compL f items with
    | err c => simp only [ec, R.bind_err, noErr] at h; exact False.elim h
    | bad => simp only [ec, R.bind_bad, noErr] at h; exact False.elim h
    | ok ys =>
      simp only [ec, R.bind_ok, noErr] at h
      have hI := hIt H1 (fun a => O a ∨ a = D) (Tr.same (G := G) (Same.refl _) fun a z => z.elim .inl fun q => .inr (q ▸ hD))
      refine ⟨fun i m Hc => m = items.length - i ∧ i ≤ items.length ∧ Same G H1 Hc ∧ ∃ ya acc, compL f (items.take i) = .ok ya ∧ Hc D = some (.lst acc) ∧ DenL G Hc (fun a => O a ∨ a = D) ya acc ∧ acc.length ≤ i,
        ⟨items.length, rfl, Nat.zero_le _, same_new hD, [], [], rfl, upd_same, .nil, Nat.le_refl _⟩, ?_⟩
      rintro i m Hc ⟨rfl, hi, sc, ya, acc, c1, c2, c3, c4⟩
      by_cases hlt : i < items.length
      · have hd : items[i]? = some items[i] := List.getElem?_eq_getElem hlt
        obtain ⟨hgo, hyl⟩ := (hI Hc sc i).1 _ hd
        obtain ⟨ya', o, g1, g2, g3⟩ := compL_step ec hd
        rw [c1] at g1
        cases g1
        refine .inr ⟨hgo, fun H' => Same G H1 H' ∧ ∃ ya acc, compL f (items.take (i + 1)) = .ok ya ∧ H' D = some (.lst acc) ∧ DenL G H' (fun a => O a ∨ a = D) ya acc ∧ acc.length ≤ i + 1,
          fun H' ⟨q1, q2⟩ => ⟨items.length - (i + 1), by omega, rfl, hlt, q1, q2⟩, fun x H' y => ?_⟩
        obtain ⟨s2, hdx'⟩ := hyl x H' y
        have hdx : Den G H' (fun a => O a ∨ a = D) items[i] x := hdx' _ fun a z => .inl z
        have bO : Bnd G (fun a => O a ∨ a = D) H' := ⟨fun a z => by
          rcases z with z | z
          · exact (hb1.same (sc.trans s2)).no a z
          · rw [z, s2.g c2]; simp, (hb1.same (sc.trans s2)).tabs⟩
        have rO : Rd G ρ σ H' (fun a => O a ∨ a = D) := (hr1.avoid (O' := fun a => O a ∨ a = D) fun a z => z.elim .inl fun q => .inr (q ▸ hD)).same (sc.trans s2)
        have c2' : H' D = some (.lst acc) := s2.g c2
        have c3' := c3.same s2
        rw [← ef] at g2
        unfold turnF at g2
        cases eb : bindTg tg items[i] (wipeE ρ vs) with
        | none => rw [eb] at g2; cases g2
        | some ρ' =>
          rw [eb] at g2
          simp only at g2
          refine ⟨_, items[i], wipeE ρ vs, ρ', bO, hdx, rO.wipe vs, eb, fun σ2 hr2 hw => ⟨?_, ?_⟩⟩
          · have ew := hw vs hts
            rw [ew]
            refine List.ext_getElem? fun j => ?_
            rw [wipe_get, wipe_get, wipe_length]
            by_cases hj : j ∈ vs ∧ j < σ.length
            · rw [if_pos hj, if_pos hj]
            · rw [if_neg hj]
          · refine htt _ _ _ ⟨ρ', _, bO, hr2, ?_⟩
            cases et : ft ρ' with
            | err c => rw [et] at g2; cases g2
            | bad => rw [et] at g2; cases g2
            | ok b =>
              rw [et] at g2
              simp only [R.bind_ok] at g2
              intro H3 s3
              cases b with
              | false =>
                rw [if_neg (by simp)] at g2 ⊢
                cases g2
                refine ⟨sc.trans (s2.trans s3), ya, acc, ?_, s3.g c2', c3'.same s3, by omega⟩
                rw [g3]
                simp
              | true =>
                rw [if_pos rfl] at g2 ⊢
                cases ee : fe ρ' with
                | err c => rw [ee] at g2; cases g2
                | bad => rw [ee] at g2; cases g2
                | ok db =>
                  rw [ee] at g2
                  simp only [R.bind_ok] at g2
                  cases g2
                  refine ⟨ρ', _, bO.same s3, hr2.same s3, ?_⟩
                  rw [ee]
                  intro v H4 s4 r4
                  have c2'' : H4 D = some (.lst acc) := s4.g (s3.g c2')
                  have dv := r4.den (bO.same s3)
                  have T : Tr H4 (fun a => O a ∨ a = D) (upd H4 D (.lst (acc ++ [v]))) (fun a => O a ∨ a = D) := Tr.write c2'' (.inr rfl)
                  refine ⟨acc, c2'', ?_, ?_, ya ++ [db.1], acc ++ [v], g3, upd_same, (((c3'.same s3).same s4).tr T).append (.cons (dv.tr T) .nil), by rw [List.length_append]; simp; omega⟩
                  · rw [← szl_eq]; omega
                  · exact (((sc.trans s2).trans s3).trans s4).upd_new hD c2''
      · have e : i = items.length := by omega
        subst e
        rw [List.take_length, ec] at c1
        cases c1
        refine .inl ⟨(hI Hc sc _).2 (Nat.le_refl _), h _ _ (s1.trans sc) ?_⟩
        unfold Res
        rw [if_pos rfl]
        exact ⟨D, _, ys, acc, .lst ys acc, rfl, s1.free hD, c2, c3⟩
/-! two clauses -/

theorem compL_split {f : D → R (Option D)} {a b ys : List D} (h : compL f (a ++ b) = .ok ys) : ∃ ya yb, compL f a = .ok ya ∧ compL f b = .ok yb ∧ ys = ya ++ yb := by
  rw [compL_append] at h
  cases ea : compL f a with
  | err c => rw [ea] at h; cases h
  | bad => rw [ea] at h; cases h
  | ok ya =>
    rw [ea, R.bind_ok] at h
    cases eb : compL f b with
    | err c => rw [eb] at h; cases h
    | bad => rw [eb] at h; cases h
    | ok yb =>
      rw [eb, R.bind_ok] at h
      cases h
      exact ⟨ya, yb, rfl, rfl, rfl⟩
theorem catL_cons {f : D → R (List D)} {x : D} {xs ys : List D} (h : catL f (x :: xs) = .ok ys) : ∃ y zs, f x = .ok y ∧ catL f xs = .ok zs ∧ ys = y ++ zs := by
  simp only [catL] at h
  cases ea : f x with
  | err c => rw [ea] at h; cases h
  | bad => rw [ea] at h; cases h
  | ok y =>
    rw [ea, R.bind_ok] at h
    cases eb : catL f xs with
    | err c => rw [eb] at h; cases h
    | bad => rw [eb] at h; cases h
    | ok zs =>
      rw [eb, R.bind_ok] at h
      cases h
      exact ⟨y, zs, rfl, rfl, rfl⟩
theorem catL_at {f : D → R (List D)} : ∀ {xs ys : List D} {i : Nat} {d : D}, catL f xs = .ok ys → xs[i]? = some d → ∃ ya o zs, catL f (xs.take i) = .ok ya ∧ f d = .ok o ∧ catL f (xs.take (i + 1)) = .ok (ya ++ o) ∧ ys = ya ++ o ++ zs
  | [], _, _, _, _, hd => by simp at hd
  | x :: xs, ys, 0, d, h, hd => by
    obtain ⟨y, zs, h1, h2, h3⟩ := catL_cons h
    simp at hd
    subst hd
    refine ⟨[], y, zs, rfl, h1, ?_, h3⟩
    simp [catL, h1]
  | x :: xs, ys, i + 1, d, h, hd => by
    obtain ⟨y, zs, h1, h2, h3⟩ := catL_cons h
    obtain ⟨ya, o, us, g1, g2, g3, g4⟩ := catL_at (i := i) (d := d) h2 (by simpa using hd)
    refine ⟨y ++ ya, o, us, ?_, g2, ?_, ?_⟩
    · simp [catL, h1, g1]
    · rw [List.take_succ_cons]
      simp only [catL, h1, R.bind_ok, g3, List.append_assoc]
    · rw [h3, g4]
      simp [List.append_assoc]
open Classical in
noncomputable def rmH (D : Addr) (H : Hp) : Hp := fun a => if a = D then none else H a
theorem rmH_ne {D a : Addr} {H : Hp} (h : a ≠ D) : rmH D H a = H a := by unfold rmH; rw [if_neg h]
theorem rmH_some {D a : Addr} {H : Hp} {o : HO} (h : rmH D H a = some o) : a ≠ D ∧ H a = some o := by
  unfold rmH at h
  split at h
  · cases h
  · rename_i n
    exact ⟨n, h⟩
theorem rmH_self {D : Addr} {H : Hp} : rmH D H D = none := by unfold rmH; rw [if_pos rfl]
theorem Same.rm {D : Addr} {H H' : Hp} {xs : List V} (s : Same G H H') (n : H D = none) (c : H' D = some (.lst xs)) : Same G H (rmH D H') :=
  ⟨fun b o e h => (rmH_ne (ne_of_none e n)).trans (s.ob b o e h), fun P q t => tabs_keep (fun b o e h1 => (rmH_ne fun z => h1 (by rw [show o = .lst xs from Option.some.inj ((e.symm.trans (by rw [z])).trans c)]; trivial)).trans e) (s.tb P q t), fun b z => by
    have hne : b ≠ D := fun q => z (by rw [q]; exact n)
    rw [rmH_ne hne]
    exact s.th b z⟩
def turn2 (tg : Tg) (fs1 : Ev → R (List D)) (tg1 : Tg) (ft : Ev → R Bool) (fe : Ev → R DB) (vs vs1 : List Nat) (ρ : Ev) (x : D) : R (List D) := match bindTg tg x (wipeE ρ vs) with
  | some ρ' => (fs1 ρ').bind fun ys => compL (turnF tg1 ft fe vs1 ρ') ys
  | none => .bad
theorem rd_comp2 {fs fs1 : Ev → R (List D)} {tg tg1 : Tg} {ft : Ev → R Bool} {fe : Ev → R DB} {vs vs1 : List Nat} {tt : TT} (htt : ∀ σ H Q, rdT G W0 ft σ H Q → tt σ H Q) (hts : ∀ i ∈ tgSlots tg, i ∈ vs) (hts1 : ∀ i ∈ tgSlots tg1, i ∈ vs1) {σ : Sg} {H : Hp} {Q : VK}
    (h : rdE G W (fun ρ => (fs ρ).bind fun xs => noErr ((catL (turn2 tg fs1 tg1 ft fe vs vs1 ρ) xs).bind fun zs => okIf (decide (zs.length ≤ szl)) (.lst zs, true))) σ H Q) :
    tLc2 (rdS G W fs) (rdG G tg) tYes (rdS G W0 fs1) (rdG G tg1) tt (rdE G W0 fe) vs vs1 σ H Q := by
  obtain ⟨ρ, O, hb, hr, h⟩ := h
  refine ⟨ρ, O, hb, hr, ?_⟩
  cases efs : fs ρ with
  | err c => simp only [efs, R.bind_err] at h; exact h
  | bad => simp only [efs, R.bind_bad] at h; exact h
  | ok items =>
    simp only [efs, R.bind_ok] at h
    intro J H1 s1 hlen hIt D hD
    have hb1 := hb.same s1
    have hr1 := hr.same s1
    generalize ef : turn2 tg fs1 tg1 ft fe vs vs1 ρ = f at h
    cases ec : catL f items with
    | err c => simp only [ec, R.bind_err, noErr] at h; exact False.elim h
    | bad => simp only [ec, R.bind_bad, noErr] at h; exact False.elim h
    | ok zs =>
      simp only [ec, R.bind_ok, noErr] at h
      by_cases hz : zs.length ≤ szl
      case neg => rw [decide_eq_false hz] at h; exact False.elim h
      rw [decide_eq_true hz, okIf_true] at h
      have hI := hIt H1 (fun a => O a ∨ a = D) (Tr.same (G := G) (Same.refl _) fun a z => z.elim .inl fun q => .inr (q ▸ hD))
      refine ⟨fun i m Hc => m = items.length - i ∧ i ≤ items.length ∧ Same G H1 Hc ∧ ∃ ya acc, catL f (items.take i) = .ok ya ∧ Hc D = some (.lst acc) ∧ DenL G Hc (fun a => O a ∨ a = D) ya acc,
        ⟨items.length, rfl, Nat.zero_le _, same_new hD, [], [], rfl, upd_same, .nil⟩, ?_⟩
      rintro i m Hc ⟨rfl, hi, sc, ya, acc, c1, c2, c3⟩
      by_cases hlt : i < items.length
      · have hd : items[i]? = some items[i] := List.getElem?_eq_getElem hlt
        obtain ⟨hgo, hyl⟩ := (hI Hc sc i).1 _ hd
        obtain ⟨ya', o, us, g1, g2, g3, g4⟩ := catL_at ec hd
        rw [c1] at g1
        cases g1
        refine .inr ⟨hgo, fun H' => Same G H1 H' ∧ ∃ ya acc, catL f (items.take (i + 1)) = .ok ya ∧ H' D = some (.lst acc) ∧ DenL G H' (fun a => O a ∨ a = D) ya acc,
          fun H' ⟨q1, q2⟩ => ⟨items.length - (i + 1), by omega, rfl, hlt, q1, q2⟩, fun x H' y => ?_⟩
        obtain ⟨s2, hdx'⟩ := hyl x H' y
        have hdx : Den G H' (fun a => O a ∨ a = D) items[i] x := hdx' _ fun a z => .inl z
        have bO : Bnd G (fun a => O a ∨ a = D) H' := ⟨fun a z => by
          rcases z with z | z
          · exact (hb1.same (sc.trans s2)).no a z
          · rw [z, s2.g c2]; simp, (hb1.same (sc.trans s2)).tabs⟩
        have rO : Rd G ρ σ H' (fun a => O a ∨ a = D) := (hr1.avoid (O' := fun a => O a ∨ a = D) fun a z => z.elim .inl fun q => .inr (q ▸ hD)).same (sc.trans s2)
        have c2' : H' D = some (.lst acc) := s2.g c2
        have c3' := c3.same s2
        have sc' := sc.trans s2
        rw [← ef] at g2
        unfold turn2 at g2
        cases eb : bindTg tg items[i] (wipeE ρ vs) with
        | none => rw [eb] at g2; cases g2
        | some ρ' =>
          rw [eb] at g2
          simp only at g2
          refine ⟨_, items[i], wipeE ρ vs, ρ', bO, hdx, rO.wipe vs, eb, fun σ2 hr2 hw => ⟨?_, ?_⟩⟩
          · have ew := hw vs hts
            rw [ew]
            refine List.ext_getElem? fun j => ?_
            rw [wipe_get, wipe_get, wipe_length]
            by_cases hj : j ∈ vs ∧ j < σ.length
            · rw [if_pos hj, if_pos hj]
            · rw [if_neg hj]
          · show rdS G W0 fs1 σ2 H' _
            refine ⟨ρ', _, bO, hr2, ?_⟩
            cases ei : fs1 ρ' with
            | err c => rw [ei] at g2; cases g2
            | bad => rw [ei] at g2; cases g2
            | ok its =>
              rw [ei, R.bind_ok] at g2
              intro J1 H4 s4 hlen1 hIt1
              have c2'' : H4 D = some (.lst acc) := s4.g c2'
              have sH : Same G H1 H4 := sc'.trans s4
              have TB : Tr H4 (fun a => O a ∨ a = D) (rmH D H4) (fun a => O a ∨ a = D) :=
                { tup := fun a xs e => (rmH_ne (fun q => by rw [q, c2''] at e; cases e)).trans e
                  frz := fun a ob u e => (rmH_ne (fun q => by rw [q, c2''] at e; cases e)).trans e
                  box := fun a xs _ e n => ⟨(rmH_ne fun q => n (.inr q)).trans e, n⟩ }
              have hI1 := hIt1 (rmH D H4) (fun a => O a ∨ a = D) TB
              have sB : Same G H1 (rmH D H4) := sH.rm hD c2''
              have b4 := bO.same s4
              have r4 := hr2.same s4
              generalize eg : turnF tg1 ft fe vs1 ρ' = gg at g2
              refine ⟨fun j k Hk => k = its.length - j ∧ j ≤ its.length ∧ Same G (rmH D H4) Hk ∧ ∃ yb acc, compL gg (its.take j) = .ok yb ∧ Hk D = some (.lst acc) ∧ DenL G Hk (fun a => O a ∨ a = D) (ya ++ yb) acc,
                ⟨its.length, rfl, Nat.zero_le _, .of fun a ob e => (rmH_some e).2, [], acc, rfl, c2'', by rw [List.append_nil]; exact c3'.same s4⟩, ?_⟩
              rintro j k Hk ⟨rfl, hj, sk, yb, acck, d1, d2, d3⟩
              by_cases hltj : j < its.length
              · have hdj : its[j]? = some its[j] := List.getElem?_eq_getElem hltj
                obtain ⟨hgo1, hyl1⟩ := (hI1 Hk sk j).1 _ hdj
                obtain ⟨yb', o1, k1, k2, k3⟩ := compL_step g2 hdj
                rw [d1] at k1
                cases k1
                have hlenb : (ya ++ (yb ++ o1.toList)).length ≤ szl := by
                  have e0 : its.take (j + 1) ++ its.drop (j + 1) = its := List.take_append_drop _ _
                  rw [← e0] at g2
                  obtain ⟨p, q, p1, p2, p3⟩ := compL_split g2
                  rw [k3] at p1
                  cases p1
                  have : zs.length = ya.length + (yb ++ o1.toList).length + q.length + us.length := by rw [g4, p3]; simp [List.length_append]; omega
                  rw [List.length_append]
                  omega
                have toH1 : ∀ {Hx : Hp}, Same G (rmH D H4) Hx → Same G H1 Hx := fun s => sB.trans s
                refine .inr ⟨hgo1, fun H' => Same G (rmH D H4) H' ∧ ∃ yb acc, compL gg (its.take (j + 1)) = .ok yb ∧ H' D = some (.lst acc) ∧ DenL G H' (fun a => O a ∨ a = D) (ya ++ yb) acc,
                  fun H' ⟨q1, q2⟩ => ⟨its.length - (j + 1), by omega, rfl, hltj, q1, q2⟩, fun x1 H5 y1 => ?_⟩
                obtain ⟨s5, hdx5'⟩ := hyl1 x1 H5 y1
                have hdx5 : Den G H5 (fun a => O a ∨ a = D) its[j] x1 := hdx5' _ fun a z => .inl z
                have d2' : H5 D = some (.lst acck) := s5.g d2
                have d3' := d3.same s5
                have T5 : Tr H4 (fun a => O a ∨ a = D) H5 (fun a => O a ∨ a = D) :=
                  { tup := fun a xs e => s5.g (sk.g ((rmH_ne (fun q => by rw [q, c2''] at e; cases e)).trans e))
                    frz := fun a ob u e => s5.g (sk.g ((rmH_ne (fun q => by rw [q, c2''] at e; cases e)).trans e))
                    box := fun a xs bx e n => ⟨s5.ob _ _ (sk.ob _ _ ((rmH_ne fun q => n (.inr q)).trans e) (isBx_nt bx)) (isBx_nt bx), n⟩ }
                have b5 : Bnd G (fun a => O a ∨ a = D) H5 := ⟨fun a z => by
                  by_cases hne : a = D
                  · rw [hne, d2']; simp
                  · exact s5.th a (sk.th a (by rw [rmH_ne hne]; exact b4.no a z)), (hb1.same ((sB.trans sk).trans s5)).tabs⟩
                have r5 : Rd G ρ' σ2 H5 (fun a => O a ∨ a = D) := ⟨r4.1, fun i d e => let ⟨v, v1, v2⟩ := r4.2 i d e; ⟨v, v1, v2.tr T5⟩⟩
                rw [← eg] at k2
                unfold turnF at k2
                cases eb1 : bindTg tg1 its[j] (wipeE ρ' vs1) with
                | none => rw [eb1] at k2; cases k2
                | some ρ2 =>
                  rw [eb1] at k2
                  simp only at k2
                  refine ⟨_, its[j], wipeE ρ' vs1, ρ2, b5, hdx5, r5.wipe vs1, eb1, fun σ3 hr3 hw3 => ⟨?_, ?_⟩⟩
                  · have ew := hw3 vs1 hts1
                    rw [ew]
                    refine List.ext_getElem? fun j => ?_
                    rw [wipe_get, wipe_get, wipe_length]
                    by_cases hj : j ∈ vs1 ∧ j < σ2.length
                    · rw [if_pos hj, if_pos hj]
                    · rw [if_neg hj]
                  · refine htt _ _ _ ⟨ρ2, _, b5, hr3, ?_⟩
                    cases et : ft ρ2 with
                    | err c => rw [et] at k2; cases k2
                    | bad => rw [et] at k2; cases k2
                    | ok b =>
                      rw [et] at k2
                      simp only [R.bind_ok] at k2
                      intro H6 s6
                      cases b with
                      | false =>
                        rw [if_neg (by simp)] at k2 ⊢
                        cases k2
                        refine ⟨sk.trans (s5.trans s6), yb, acck, ?_, s6.g d2', d3'.same s6⟩
                        rw [k3]
                        simp
                      | true =>
                        rw [if_pos rfl] at k2 ⊢
                        cases ee : fe ρ2 with
                        | err c => rw [ee] at k2; cases k2
                        | bad => rw [ee] at k2; cases k2
                        | ok db =>
                          rw [ee] at k2
                          simp only [R.bind_ok] at k2
                          cases k2
                          refine ⟨ρ2, _, b5.same s6, hr3.same s6, ?_⟩
                          rw [ee]
                          intro v H7 s7 r7
                          have e2 : H7 D = some (.lst acck) := s7.g (s6.g d2')
                          have dv := r7.den (b5.same s6)
                          have T : Tr H7 (fun a => O a ∨ a = D) (upd H7 D (.lst (acck ++ [v]))) (fun a => O a ∨ a = D) := Tr.write e2 (.inr rfl)
                          have d7 := ((d3'.same s6).same s7)
                          refine ⟨acck, e2, ?_, ?_, yb ++ [db.1], acck ++ [v], k3, upd_same, ?_⟩
                          · rw [← szl_eq, ← d7.length]
                            simp only [List.length_append, Option.toList, List.length_cons, List.length_nil] at hlenb ⊢
                            omega
                          · exact (((sk.trans s5).trans s6).trans s7).upd_new rmH_self e2
                          · rw [← List.append_assoc]
                            exact (d7.tr T).append (.cons (dv.tr T) .nil)
              · have e : j = its.length := by omega
                subst e
                rw [List.take_length, g2] at d1
                cases d1
                refine .inl ⟨(hI1 Hk sk its.length).2 (Nat.le_refl its.length), sB.trans sk, ya ++ o, acck, g3, d2, d3⟩
      · have e : i = items.length := by omega
        subst e
        rw [List.take_length, ec] at c1
        cases c1
        refine .inl ⟨(hI Hc sc _).2 (Nat.le_refl _), h _ _ (s1.trans sc) ?_⟩
        unfold Res
        rw [if_pos rfl]
        exact ⟨D, _, zs, acc, .lst zs acc, rfl, s1.free hD, c2, c3⟩
end
end SS

set_option maxRecDepth 100000
set_option maxHeartbeats 4000000
/-! SSI: the slots with their owned lists -/
namespace SS
open PySem PySem.Spec PyProof.Rows L2
def Own (δ : Sl) (A : Nat → Addr) : Addr → Prop := fun a => ∃ (i : Nat) (d : D), δ[i]? = some (some (true, d)) ∧ a = A i
def Av (O0 : Addr → Prop) (δ : Sl) (A : Nat → Addr) : Addr → Prop := fun a => O0 a ∨ Own δ A a
structure SlR (G : Gb) (H0 : Hp) (O0 : Addr → Prop) (δ : Sl) (A : Nat → Addr) (σ : Sg) (H : Hp) : Prop where
  same : Same G H0 H
  bnd : Bnd G O0 H0
  len : δ.length = σ.length
  own : ∀ (i : Nat) (d : D), δ[i]? = some (some (true, d)) → σ[i]? = some (some (.ref (A i))) ∧ H0 (A i) = none ∧ ∃ o ds xs, Box d o ds xs ∧ H (A i) = some o ∧ DenL G H (Av O0 δ A) ds xs
  inj : ∀ (i j : Nat) (d e : D), δ[i]? = some (some (true, d)) → δ[j]? = some (some (true, e)) → A i = A j → i = j
  val : ∀ (i : Nat) (d : D), δ[i]? = some (some (false, d)) → ∃ v, σ[i]? = some (some v) ∧ Den G H (Av O0 δ A) d v
def SlS (G : Gb) (H0 : Hp) (O0 : Addr → Prop) (δ : Sl) (σ : Sg) (H : Hp) : Prop := ∃ A, SlR G H0 O0 δ A σ H
section
variable {G : Gb} {H0 H H' : Hp} {O0 : Addr → Prop} {δ : Sl} {A : Nat → Addr} {σ : Sg}
theorem SlR.bndA (S : SlR G H0 O0 δ A σ H) : Bnd G (Av O0 δ A) H := ⟨fun a z => by
  rcases z with z | ⟨i, d, h, rfl⟩
  · exact (S.bnd.same S.same).no a z
  · obtain ⟨_, _, o, ds, xs, _, e, _⟩ := S.own i d h
    rw [e]; simp, (S.bnd.same S.same).tabs⟩
theorem SlR.sameH (s : Same G H H') (S : SlR G H0 O0 δ A σ H) : SlR G H0 O0 δ A σ H' :=
  ⟨S.same.trans s, S.bnd, S.len, fun i d h => let ⟨h1, h2, o, ds, xs, h3, h4, h5⟩ := S.own i d h; ⟨h1, h2, o, ds, xs, h3, s.g h4 (isBx_nt h3.is), h5.same s⟩, S.inj, fun i d h => let ⟨v, h1, h2⟩ := S.val i d h; ⟨v, h1, h2.same s⟩⟩
theorem Av_noO {O0 : Addr → Prop} {δ : Sl} {A : Nat → Addr} {a : Addr} (h : O0 a) : Av O0 δ A a := .inl h

/-! freezing -/
theorem frzF_get (ms : List Nat) : ∀ (δ : Sl) (n i : Nat), (frzF ms n δ)[i]? = (δ[i]?).map (Option.map fun p => (p.1 && !ms.contains (n + i), p.2))
  | [], n, i => by simp [frzF]
  | none :: r, n, 0 => by simp [frzF]
  | some (o, d) :: r, n, 0 => by simp [frzF]
  | none :: r, n, i + 1 => by
    simp only [frzF, List.getElem?_cons_succ]
    rw [frzF_get ms r (n + 1) i, show n + 1 + i = n + (i + 1) by omega]
  | some (o, d) :: r, n, i + 1 => by
    simp only [frzF, List.getElem?_cons_succ]
    rw [frzF_get ms r (n + 1) i, show n + 1 + i = n + (i + 1) by omega]
theorem frz_get (ms : List Nat) (δ : Sl) (i : Nat) : (frz ms δ)[i]? = (δ[i]?).map (Option.map fun p => (p.1 && !ms.contains i, p.2)) := by
  unfold frz
  rw [frzF_get, Nat.zero_add]
theorem frzF_len (ms : List Nat) : ∀ (δ : Sl) (n : Nat), (frzF ms n δ).length = δ.length
  | [], _ => rfl
  | none :: r, n => by simp only [frzF, List.length_cons, frzF_len ms r]
  | some (o, d) :: r, n => by simp only [frzF, List.length_cons, frzF_len ms r]
theorem frz_len (ms : List Nat) (δ : Sl) : (frz ms δ).length = δ.length := frzF_len ms δ 0
theorem viewF_get (ms : List Nat) : ∀ (δ : Sl) (n i : Nat), (viewF ms n δ)[i]? = (δ[i]?).map fun o => o.bind fun p => if p.1 && !ms.contains (n + i) then none else some p.2
  | [], n, i => by simp [viewF]
  | none :: r, n, 0 => by simp [viewF]
  | some (o, d) :: r, n, 0 => by simp [viewF]
  | none :: r, n, i + 1 => by
    simp only [viewF, List.getElem?_cons_succ]
    rw [viewF_get ms r (n + 1) i, show n + 1 + i = n + (i + 1) by omega]
  | some (o, d) :: r, n, i + 1 => by
    simp only [viewF, List.getElem?_cons_succ]
    rw [viewF_get ms r (n + 1) i, show n + 1 + i = n + (i + 1) by omega]
theorem view_get (ms : List Nat) (δ : Sl) (i : Nat) : (view ms δ)[i]? = (δ[i]?).map fun o => o.bind fun p => if p.1 && !ms.contains i then none else some p.2 := by
  unfold view
  rw [viewF_get, Nat.zero_add]
theorem viewF_len (ms : List Nat) : ∀ (δ : Sl) (n : Nat), (viewF ms n δ).length = δ.length
  | [], _ => rfl
  | none :: r, n => by simp only [viewF, List.length_cons, viewF_len ms r]
  | some (o, d) :: r, n => by simp only [viewF, List.length_cons, viewF_len ms r]
/-- owned, not among ms -/
theorem own_frz {ms : List Nat} {a : Addr} (h : Own (frz ms δ) A a) : Own δ A a := by
  obtain ⟨i, d, h, rfl⟩ := h
  rw [frz_get] at h
  cases e : δ[i]? with
  | none => rw [e] at h; cases h
  | some o =>
    rw [e] at h
    cases o with
    | none => cases h
    | some p =>
      obtain ⟨o, d'⟩ := p
      simp only [Option.map_some, Option.some.injEq, Prod.mk.injEq, Bool.and_eq_true] at h
      obtain ⟨⟨rfl, _⟩, rfl⟩ := h
      exact ⟨i, _, e, rfl⟩
theorem frz_at {ms : List Nat} {i : Nat} {o : Bool} {d : D} (h : (frz ms δ)[i]? = some (some (o, d))) : ∃ o', δ[i]? = some (some (o', d)) ∧ o = (o' && !ms.contains i) := by
  rw [frz_get] at h
  cases e : δ[i]? with
  | none => rw [e] at h; cases h
  | some q =>
    rw [e] at h
    cases q with
    | none => cases h
    | some p =>
      obtain ⟨o', d'⟩ := p
      simp only [Option.map_some, Option.some.injEq, Prod.mk.injEq] at h
      obtain ⟨h1, rfl⟩ := h
      exact ⟨o', rfl, h1.symm⟩
theorem and_l {o c : Bool} (h : true = (o && c)) : o = true := by
  cases o with
  | true => rfl
  | false => simp at h
theorem SlR.lstDen (S : SlR G H0 O0 δ A σ H) {i : Nat} {d : D} (h : δ[i]? = some (some (true, d))) {O : Addr → Prop} (hO : ∀ a, O a → Av O0 δ A a) (hn : ¬ O (A i)) : Den G H O d (.ref (A i)) := by
  obtain ⟨_, h2, o, ds, xs, bx, e, r⟩ := S.own i d h
  exact .ofBox bx e hn (r.tr ⟨fun _ _ e => e, fun _ _ _ e => e, fun c ys _ e n => ⟨e, fun z => n (hO c z)⟩⟩)
theorem SlR.noO0 (S : SlR G H0 O0 δ A σ H) {i : Nat} {d : D} (h : δ[i]? = some (some (true, d))) : ¬ O0 (A i) := fun z => S.bnd _ z (S.own i d h).2.1
theorem SlR.frz (ms : List Nat) (S : SlR G H0 O0 δ A σ H) : SlR G H0 O0 (frz ms δ) A σ H := by
  have sub : ∀ a, Av O0 (SS.frz ms δ) A a → Av O0 δ A a := fun a z => z.elim .inl fun z => .inr (own_frz z)
  have lower : ∀ {d : D} {v : V}, Den G H (Av O0 δ A) d v → Den G H (Av O0 (SS.frz ms δ) A) d v := fun h => h.tr ⟨fun _ _ e => e, fun _ _ _ e => e, fun c ys _ e n => ⟨e, fun z => n (sub c z)⟩⟩
  have lowerL : ∀ {d : List D} {v : List V}, DenL G H (Av O0 δ A) d v → DenL G H (Av O0 (SS.frz ms δ) A) d v := fun h => h.tr ⟨fun _ _ e => e, fun _ _ _ e => e, fun c ys _ e n => ⟨e, fun z => n (sub c z)⟩⟩
  refine ⟨S.same, S.bnd, by rw [frz_len]; exact S.len, fun i d h => ?_, fun i j d e h1 h2 q => ?_, fun i d h => ?_⟩
  · obtain ⟨o', h1, h2⟩ := frz_at h
    have h2' : o' = true := and_l h2
    subst h2'
    obtain ⟨g1, g2, o, ds, xs, g3, g4, g5⟩ := S.own i d h1
    exact ⟨g1, g2, o, ds, xs, g3, g4, lowerL g5⟩
  · obtain ⟨o1, h1, e1⟩ := frz_at h1
    obtain ⟨o2, h2, e2⟩ := frz_at h2
    have e1' : o1 = true := and_l e1
    have e2' : o2 = true := and_l e2
    subst e1' e2'
    exact S.inj i j d e h1 h2 q
  · obtain ⟨o', h1, h2⟩ := frz_at h
    cases o' with
    | false =>
      obtain ⟨v, g1, g2⟩ := S.val i d h1
      exact ⟨v, g1, lower g2⟩
    | true =>
      obtain ⟨g1, _⟩ := S.own i d h1
      refine ⟨_, g1, S.lstDen h1 sub fun z => ?_⟩
      rcases z with z | ⟨j, e, z, q⟩
      · exact S.noO0 h1 z
      · obtain ⟨o2, h3, h4⟩ := frz_at z
        have e2' : o2 = true := and_l h4
        subst e2'
        have := S.inj i j _ _ h1 h3 q
        subst this
        rw [Bool.true_and] at h2 h4
        rw [← h4] at h2
        cases h2
/-- what an expression sees -/
def AvM (O0 : Addr → Prop) (δ : Sl) (A : Nat → Addr) (ms : List Nat) : Addr → Prop := fun a => O0 a ∨ Own (SS.frz ms δ) A a
theorem SlR.rd {δ2 : Sl} {σ2 : Sg} (ms : List Nat) (S : SlR G H0 O0 (δ ++ δ2) A (σ ++ σ2) H) (hl : δ.length = σ.length) : Bnd G (AvM O0 (δ ++ δ2) A ms) H ∧ Rd G (view ms δ) σ H (AvM O0 (δ ++ δ2) A ms) := by
  have F := SlR.frz ms S
  refine ⟨F.bndA, by unfold view; rw [viewF_len]; exact hl, fun i d h => ?_⟩
  rw [view_get] at h
  cases e : δ[i]? with
  | none => rw [e] at h; cases h
  | some o =>
    rw [e] at h
    have hi : i < δ.length := (List.getElem?_eq_some_iff.mp e).1
    cases o with
    | none => cases h
    | some p =>
      obtain ⟨o, d'⟩ := p
      simp only [Option.map_some, Option.bind_some, Option.some.injEq] at h
      split at h
      · cases h
      · rename_i hc
        cases h
        have e2 : (δ ++ δ2)[i]? = some (some (o, d)) := by rw [List.getElem?_append_left hi]; exact e
        have e3 : (SS.frz ms (δ ++ δ2))[i]? = some (some (false, d)) := by
          rw [frz_get, e2]
          have hc' : (o && !ms.contains i) = false := by simpa using hc
          simp only [Option.map_some, hc']
        obtain ⟨v, h1, h2⟩ := F.val i d e3
        rw [List.getElem?_append_left (by omega)] at h1
        exact ⟨v, h1, h2⟩
theorem SlR.rd0 (ms : List Nat) (S : SlR G H0 O0 δ A σ H) : Bnd G (AvM O0 δ A ms) H ∧ Rd G (view ms δ) σ H (AvM O0 δ A ms) := by
  have q := SlR.rd (δ2 := []) (σ2 := []) ms (by rw [List.append_nil, List.append_nil]; exact S) S.len
  rw [List.append_nil] at q
  exact q
theorem SlR.rdAll (S : SlR G H0 O0 δ A σ H) : Bnd G O0 H ∧ Rd G (viewA δ) σ H O0 := by
  refine ⟨S.bnd.same S.same, by unfold viewA; rw [List.length_map]; exact S.len, fun i d h => ?_⟩
  unfold viewA at h
  rw [List.getElem?_map] at h
  cases e : δ[i]? with
  | none => rw [e] at h; cases h
  | some o =>
    rw [e] at h
    cases o with
    | none => cases h
    | some p =>
      obtain ⟨o, d'⟩ := p
      simp only [Option.map_some, Option.some.injEq] at h
      subst h
      cases o with
      | true =>
        obtain ⟨g1, _⟩ := S.own i _ e
        exact ⟨_, g1, S.lstDen e (fun a z => .inl z) (S.noO0 e)⟩
      | false =>
        obtain ⟨v, g1, g2⟩ := S.val i _ e
        exact ⟨v, g1, g2.tr ⟨fun _ _ e => e, fun _ _ _ e => e, fun c ys _ e n => ⟨e, fun z => n (.inl z)⟩⟩⟩
/-- behind an expression: the slots, and the value by the slots -/
theorem SlR.after {ms : List Nat} {db : DB} {v : V} (S : SlR G H0 O0 δ A σ H) (s : Same G H H') (r : Res G H H' (AvM O0 δ A ms) db v) :
    SlR G H0 O0 (after ms db δ) A σ H ∧ Res G H H' (Av O0 (SS.after ms db δ) A) db v := by
  unfold SS.after
  by_cases hm : ms.isEmpty = true
  · rw [hm, Bool.true_or, if_pos rfl]
    refine ⟨S, ?_⟩
    have e : SS.frz ms δ = δ := by
      refine List.ext_getElem? fun i => ?_
      rw [frz_get]
      have e0 : ms = [] := List.isEmpty_iff.mp hm
      subst e0
      cases δ[i]? with
      | none => rfl
      | some o => cases o <;> simp
    unfold AvM at r
    rw [e] at r
    exact r
  · rw [Bool.not_eq_true _ |>.mp hm, Bool.false_or]
    by_cases hs : safe db = true
    · rw [if_pos hs]
      refine ⟨S, ?_⟩
      unfold safe at hs
      unfold Res at r ⊢
      by_cases hf : db.2 = true
      · rw [if_pos hf] at r ⊢
        obtain ⟨a, o, ds, xs, e1, e2, n, e, q⟩ := r
        have hi : imms ds = true := by
          rw [hf] at hs
          generalize db.1 = d0 at e1 hs
          cases e1 <;> simpa [imm] using hs
        exact ⟨a, o, ds, xs, e1, e2, n, e, q.imm (fun _ _ e => e) (fun _ _ _ e => e) hi⟩
      · rw [if_neg hf] at r ⊢
        have hi : imm db.1 = true := by
          rw [Bool.not_eq_true _ |>.mp hf] at hs
          simpa using hs
        exact r.imm (fun _ _ e => e) (fun _ _ _ e => e) hi
    · rw [if_neg hs]
      exact ⟨SlR.frz ms S, r⟩
/-- one more slot -/
theorem SlR.push {ow : Bool} {db : DB} {v : V} (S : SlR G H0 O0 δ A σ H) (s : Same G H H') (r : Res G H H' (Av O0 δ A) db v) :
    ∃ A', SlR G H0 O0 (δ ++ [some (ow && db.2, db.1)]) A' (σ ++ [some v]) H' := by
  by_cases hf : (ow && db.2) = true
  · rw [hf]
    simp only [Bool.and_eq_true] at hf
    unfold Res at r
    rw [if_pos hf.2] at r
    obtain ⟨a, ob, ds, xs, e1, e2, n, e, q⟩ := r
    subst e2
    have ne : ∀ i d, δ[i]? = some (some (true, d)) → A i ≠ a := fun i d h z => by
      obtain ⟨_, _, o2, ys, es, _, g, _⟩ := S.own i d h
      rw [z, n] at g
      cases g
    have at_ : ∀ (i : Nat) (o : Bool) (d : D), (δ ++ [some (true, db.1)])[i]? = some (some (o, d)) → (i < δ.length ∧ δ[i]? = some (some (o, d))) ∨ (i = δ.length ∧ o = true ∧ d = db.1) := fun i o d h => by
      by_cases hi : i < δ.length
      · rw [List.getElem?_append_left hi] at h
        exact .inl ⟨hi, h⟩
      · rw [List.getElem?_append_right (by omega)] at h
        have hz : i - δ.length = 0 := by
          cases q : i - δ.length with
          | zero => rfl
          | succ k => rw [q] at h; simp at h
        rw [hz] at h
        simp at h
        exact .inr ⟨by omega, h.1, h.2.symm⟩
    have sub : ∀ x, Av O0 (δ ++ [some (true, db.1)]) (fun i => if i = δ.length then a else A i) x → Av O0 δ A x ∨ x = a := fun x z => by
      rcases z with z | ⟨i, d, h, rfl⟩
      · exact .inl (.inl z)
      · dsimp only
        rcases at_ i true d h with ⟨hi, h⟩ | ⟨hi, _, _⟩
        · rw [if_neg (by omega)]
          exact .inl (.inr ⟨i, d, h, rfl⟩)
        · rw [if_pos hi]
          exact .inr rfl
    have av : ∀ x, Av O0 (δ ++ [some (true, db.1)]) (fun i => if i = δ.length then a else A i) x → Av O0 δ A x ∨ H x = none := fun x z => (sub x z).imp_right fun (q : x = a) => by rw [q]; exact n
    refine ⟨fun i => if i = δ.length then a else A i, S.same.trans s, S.bnd, by rw [List.length_append, List.length_append, S.len]; rfl, fun i d h => ?_, fun i j d f h1 h2 q => ?_, fun i d h => ?_⟩
    · rcases at_ i true d h with ⟨hi, h⟩ | ⟨hi, _, rfl⟩
      · obtain ⟨g1, g2, o2, ys, es, g3, g4, g5⟩ := S.own i d h
        try dsimp only
        rw [if_neg (by omega)]
        exact ⟨by rw [List.getElem?_append_left (by rw [← S.len]; exact hi)]; exact g1, g2, o2, ys, es, g3, s.g g4 (isBx_nt g3.is), g5.tr (Tr.same s av)⟩
      · try dsimp only
        rw [if_pos hi]
        refine ⟨by rw [hi, S.len, List.getElem?_append_right (Nat.le_refl _)]; simp, S.same.free n, ob, ds, xs, e1, e, q.tr ⟨fun _ _ e => e, fun _ _ _ e => e, fun c ys _ e n' => ⟨e, fun z => n' (sub c z)⟩⟩⟩
    · rcases at_ i true d h1 with ⟨hi, h1⟩ | ⟨hi, _, _⟩
      · rcases at_ j true f h2 with ⟨hj, h2⟩ | ⟨hj, _, _⟩
        · try dsimp only at q
          rw [if_neg (by omega), if_neg (by omega)] at q
          exact S.inj i j d f h1 h2 q
        · try dsimp only at q
          rw [if_neg (by omega), if_pos hj] at q
          exact absurd q (ne i d h1)
      · rcases at_ j true f h2 with ⟨hj, h2⟩ | ⟨hj, _, _⟩
        · try dsimp only at q
          rw [if_pos hi, if_neg (by omega)] at q
          exact absurd q.symm (ne j f h2)
        · omega
    · rcases at_ i false d h with ⟨hi, h⟩ | ⟨_, z, _⟩
      · obtain ⟨w, g1, g2⟩ := S.val i d h
        exact ⟨w, by rw [List.getElem?_append_left (by rw [← S.len]; exact hi)]; exact g1, g2.tr (Tr.same s av)⟩
      · cases z
  · rw [Bool.not_eq_true _ |>.mp hf]
    have r' := r.den S.bndA
    have at_ : ∀ (i : Nat) (o : Bool) (d : D), (δ ++ [some (false, db.1)])[i]? = some (some (o, d)) → (i < δ.length ∧ δ[i]? = some (some (o, d))) ∨ (i = δ.length ∧ o = false ∧ d = db.1) := fun i o d h => by
      by_cases hi : i < δ.length
      · rw [List.getElem?_append_left hi] at h
        exact .inl ⟨hi, h⟩
      · rw [List.getElem?_append_right (by omega)] at h
        have hz : i - δ.length = 0 := by
          cases q : i - δ.length with
          | zero => rfl
          | succ k => rw [q] at h; simp at h
        rw [hz] at h
        simp at h
        exact .inr ⟨by omega, h.1, h.2.symm⟩
    have sub : ∀ x, Av O0 (δ ++ [some (false, db.1)]) A x → Av O0 δ A x := fun x z => by
      rcases z with z | ⟨i, d, h, rfl⟩
      · exact .inl z
      · rcases at_ i true d h with ⟨hi, h⟩ | ⟨_, q, _⟩
        · exact .inr ⟨i, d, h, rfl⟩
        · cases q
    refine ⟨A, S.same.trans s, S.bnd, by rw [List.length_append, List.length_append, S.len]; rfl, fun i d h => ?_, fun i j d f h1 h2 q => ?_, fun i d h => ?_⟩
    · rcases at_ i true d h with ⟨hi, h⟩ | ⟨_, z, _⟩
      · obtain ⟨g1, g2, o2, ys, es, g3, g4, g5⟩ := S.own i d h
        exact ⟨by rw [List.getElem?_append_left (by rw [← S.len]; exact hi)]; exact g1, g2, o2, ys, es, g3, s.g g4 (isBx_nt g3.is), g5.tr (Tr.same s fun x z => .inl (sub x z))⟩
      · cases z
    · rcases at_ i true d h1 with ⟨hi, h1⟩ | ⟨_, z, _⟩
      · rcases at_ j true f h2 with ⟨hj, h2⟩ | ⟨_, z, _⟩
        · exact S.inj i j d f h1 h2 q
        · cases z
      · cases z
    · rcases at_ i false d h with ⟨hi, h⟩ | ⟨hi, _, rfl⟩
      · obtain ⟨w, g1, g2⟩ := S.val i d h
        exact ⟨w, by rw [List.getElem?_append_left (by rw [← S.len]; exact hi)]; exact g1, g2.tr (Tr.same s fun x z => .inl (sub x z))⟩
      · exact ⟨v, by rw [hi, S.len, List.getElem?_append_right (Nat.le_refl _)]; simp, r'.tr (Tr.same (G := G) (Same.refl _) fun x z => .inl (sub x z))⟩
/-- other places -/
theorem SlR.reindex {δ' : Sl} {σ' : Sg} (S : SlR G H0 O0 δ A σ H) (f : Nat → Nat) (hl : δ'.length = σ'.length) (hf : ∀ i j, i < δ'.length → j < δ'.length → f i = f j → i = j)
    (hd : ∀ i, i < δ'.length → δ'[i]? = δ[f i]?) (hs : ∀ i, i < δ'.length → σ'[i]? = σ[f i]?) : SlR G H0 O0 δ' (fun i => A (f i)) σ' H := by
  have lt : ∀ {i : Nat} {p : Bool × D}, δ'[i]? = some (some p) → i < δ'.length := fun h => (List.getElem?_eq_some_iff.mp h).1
  have sub : ∀ x, Av O0 δ' (fun i => A (f i)) x → Av O0 δ A x := fun x z => by
    rcases z with z | ⟨i, d, h, rfl⟩
    · exact .inl z
    · exact .inr ⟨f i, d, by rw [← hd i (lt h)]; exact h, rfl⟩
  refine ⟨S.same, S.bnd, hl, fun i d h => ?_, fun i j d e h1 h2 q => ?_, fun i d h => ?_⟩
  · have h' := h
    rw [hd i (lt h)] at h'
    obtain ⟨g1, g2, o2, ds, xs, g3, g4, g5⟩ := S.own (f i) d h'
    exact ⟨by rw [hs i (lt h)]; exact g1, g2, o2, ds, xs, g3, g4, g5.tr (Tr.same (G := G) (Same.refl _) fun x z => .inl (sub x z))⟩
  · have h1' := h1
    have h2' := h2
    rw [hd i (lt h1)] at h1'
    rw [hd j (lt h2)] at h2'
    exact hf i j (lt h1) (lt h2) (S.inj _ _ d e h1' h2' q)
  · have h' := h
    rw [hd i (lt h)] at h'
    obtain ⟨v, g1, g2⟩ := S.val (f i) d h'
    exact ⟨v, by rw [hs i (lt h)]; exact g1, g2.tr (Tr.same (G := G) (Same.refl _) fun x z => .inl (sub x z))⟩
/-- the last slot goes to place i -/
theorem SlR.move {i : Nat} {p : Option (Bool × D)} {v : Option V} (S : SlR G H0 O0 (δ ++ [p]) A (σ ++ [v]) H) (hl : δ.length = σ.length) : ∃ A', SlR G H0 O0 (δ.set i p) A' (σ.set i v) H := by
  refine ⟨_, S.reindex (fun k => if k = i then δ.length else k) (by rw [List.length_set, List.length_set]; exact hl) (fun a b ha hb e => ?_) (fun a ha => ?_) fun a ha => ?_⟩
  · rw [List.length_set] at ha hb
    try dsimp only at e
    split at e <;> split at e <;> omega
  · rw [List.length_set] at ha
    rw [List.getElem?_set]
    try dsimp only
    by_cases c : i = a
    · subst c
      rw [if_pos rfl, if_pos ha, if_pos rfl, List.getElem?_append_right (Nat.le_refl _)]
      simp
    · rw [if_neg c, if_neg (fun e => c e.symm), List.getElem?_append_left ha]
  · rw [List.length_set] at ha
    rw [List.getElem?_set]
    try dsimp only
    by_cases c : i = a
    · subst c
      rw [if_pos rfl, if_pos (by omega), if_pos rfl, hl, List.getElem?_append_right (Nat.le_refl _)]
      simp
    · rw [if_neg c, if_neg (fun e => c e.symm), List.getElem?_append_left (by omega)]
theorem SlR.setV {i : Nat} {ow : Bool} {db : DB} {v : V} (S : SlR G H0 O0 δ A σ H) (s : Same G H H') (r : Res G H H' (Av O0 δ A) db v) :
    ∃ A', SlR G H0 O0 (δ.set i (some (ow && db.2, db.1))) A' (σ.set i (some v)) H' := by
  obtain ⟨A1, S1⟩ := S.push (ow := ow) s r
  exact S1.move S.len
/-- the last two, three slots go to their places -/
theorem SlR.move2 {i j : Nat} {p q : Option (Bool × D)} {v w : Option V} (S : SlR G H0 O0 (δ ++ [p] ++ [q]) A (σ ++ [v] ++ [w]) H) (hl : δ.length = σ.length) (hij : i ≠ j) (hj : j < δ.length) :
    ∃ A', SlR G H0 O0 ((δ.set i p).set j q) A' ((σ.set i v).set j w) H := by
  obtain ⟨A1, S1⟩ := S.move (i := j) (by simp [hl])
  rw [List.set_append_left _ _ hj, List.set_append_left _ _ (by omega)] at S1
  obtain ⟨A2, S2⟩ := S1.move (i := i) (by simp [hl])
  rw [List.set_comm _ _ (Ne.symm hij), List.set_comm _ _ (Ne.symm hij)] at S2
  exact ⟨A2, S2⟩
theorem SlR.move3 {i j k : Nat} {p q r : Option (Bool × D)} {u v w : Option V} (S : SlR G H0 O0 (δ ++ [p] ++ [q] ++ [r]) A (σ ++ [u] ++ [v] ++ [w]) H) (hl : δ.length = σ.length) (hij : i ≠ j) (hik : i ≠ k) (hjk : j ≠ k) (hj : j < δ.length) (hk : k < δ.length) :
    ∃ A', SlR G H0 O0 (((δ.set i p).set j q).set k r) A' (((σ.set i u).set j v).set k w) H := by
  obtain ⟨A1, S1⟩ := S.move (i := k) (by simp [hl])
  have e1 : (δ ++ [p] ++ [q]).set k r = δ.set k r ++ [p] ++ [q] := by rw [List.append_assoc, List.set_append_left _ _ hk, ← List.append_assoc]
  have e2 : (σ ++ [u] ++ [v]).set k w = σ.set k w ++ [u] ++ [v] := by rw [List.append_assoc, List.set_append_left _ _ (by omega), ← List.append_assoc]
  rw [e1, e2] at S1
  obtain ⟨A2, S2⟩ := S1.move2 (i := i) (j := j) (by simp [hl]) hij (by rw [List.length_set]; exact hj)
  rw [List.set_comm _ _ (Ne.symm hik), List.set_comm _ _ (Ne.symm hjk), List.set_comm _ _ (Ne.symm hik), List.set_comm _ _ (Ne.symm hjk)] at S2
  exact ⟨A2, S2⟩
/-- an owned box changes -/
theorem SlR.writeB {i : Nat} {d d' : D} {o' : HO} {es : List D} {ys : List V} (S : SlR G H0 O0 δ A σ H) (h : δ[i]? = some (some (true, d))) (bx : Box d' o' es ys) (r : DenL G H (Av O0 δ A) es ys) :
    SlR G H0 O0 (δ.set i (some (true, d'))) A σ (upd H (A i) o') := by
  obtain ⟨g1, g2, o2, ds, xs, g3, g4, g5⟩ := S.own i d h
  have hi : i < δ.length := (List.getElem?_eq_some_iff.mp h).1
  have hO : Av O0 δ A (A i) := .inr ⟨i, d, h, rfl⟩
  have T : Tr H (Av O0 δ A) (upd H (A i) o') (Av O0 δ A) := Tr.writeB g3.is g4 hO
  have at_ : ∀ (j : Nat) (o : Bool) (e : D), (δ.set i (some (true, d')))[j]? = some (some (o, e)) → (j = i ∧ o = true ∧ e = d') ∨ (j ≠ i ∧ δ[j]? = some (some (o, e))) := fun j o e hj => by
    rw [List.getElem?_set] at hj
    by_cases c : i = j
    · subst c
      rw [if_pos rfl, if_pos hi] at hj
      simp at hj
      exact .inl ⟨rfl, hj.1, hj.2.symm⟩
    · rw [if_neg c] at hj
      exact .inr ⟨fun z => c z.symm, hj⟩
  have sub : ∀ x, Av O0 (δ.set i (some (true, d'))) A x → Av O0 δ A x := fun x z => by
    rcases z with z | ⟨j, e, hj, rfl⟩
    · exact .inl z
    · rcases at_ j true e hj with ⟨rfl, _, _⟩ | ⟨_, q⟩
      · exact hO
      · exact .inr ⟨j, e, q, rfl⟩
  have T2 : Tr H (Av O0 δ A) (upd H (A i) o') (Av O0 (δ.set i (some (true, d'))) A) := ⟨T.tup, T.frz, fun a xs b e n => ⟨(T.box a xs b e n).1, fun z => n (sub a z)⟩⟩
  refine ⟨S.same.updB g2 g4 g3.is, S.bnd, by rw [List.length_set]; exact S.len, fun j e hj => ?_, fun j k e f h1 h2 q => ?_, fun j e hj => ?_⟩
  · rcases at_ j true e hj with ⟨rfl, _, rfl⟩ | ⟨hne, q⟩
    · exact ⟨g1, g2, o', es, ys, bx, upd_same, r.tr T2⟩
    · obtain ⟨k1, k2, o3, ds', xs', k3, k4, k5⟩ := S.own j e q
      refine ⟨k1, k2, o3, ds', xs', k3, ?_, k5.tr T2⟩
      rw [upd_ne (fun z => hne (S.inj j i e d q h z))]
      exact k4
  · have b1 : ∃ e', δ[j]? = some (some (true, e')) := by
      rcases at_ j true e h1 with ⟨rfl, _, _⟩ | ⟨_, q⟩
      · exact ⟨_, h⟩
      · exact ⟨_, q⟩
    have b2 : ∃ e', δ[k]? = some (some (true, e')) := by
      rcases at_ k true f h2 with ⟨rfl, _, _⟩ | ⟨_, q⟩
      · exact ⟨_, h⟩
      · exact ⟨_, q⟩
    obtain ⟨e1, b1⟩ := b1
    obtain ⟨e2, b2⟩ := b2
    exact S.inj j k _ _ b1 b2 q
  · rcases at_ j false e hj with ⟨_, q, _⟩ | ⟨hne, q⟩
    · cases q
    · obtain ⟨v, k1, k2⟩ := S.val j e q
      exact ⟨v, k1, k2.tr T2⟩
end
end SS

set_option maxRecDepth 100000
set_option maxHeartbeats 4000000
/-! SSJ: statements -/
namespace SS
open PySem PySem.Spec PyProof.Rows L2
section
variable {G : Gb} {W : WX} {X : Cx}
/-- what is wanted behind a statement -/
def kO (G : Gb) (W : WX) (H0 : Hp) (O0 : Addr → Prop) (D : Ends) (o : Out) : Prop := match o with
  | .nx δ => ∀ σ H, SlS G H0 O0 δ σ H → D.nx σ H
  | .ret db => ∀ v H, Same G H0 H → Res G H0 H O0 db v → D.rt v H
  | .err c δ => ∀ σ H, SlS G H0 O0 δ σ H → W (.ref (G.ca c)) none σ H
  | .bad => False
def rdX (G : Gb) (W : WX) (f : Sl → Out) : TS := fun D σ H => ∃ (δ : Sl) (H0 : Hp) (O0 : Addr → Prop), SlS G H0 O0 δ σ H ∧ kO G W H0 O0 D (f δ)
theorem kO_err {H0 H : Hp} {O0 : Addr → Prop} {δ : Sl} {σ : Sg} {D : Ends} {c : Nat} (S : SlS G H0 O0 δ σ H) (h : kO G W H0 O0 D (.err c δ)) : ∀ H', Same G H H' → W (.ref (G.ca c)) none σ H' := fun H' s => by
  obtain ⟨A, S⟩ := S
  exact h σ H' ⟨A, S.sameH s⟩
/-- an expression ahead of a statement's rest -/
theorem rx_E {H0 H : Hp} {O0 : Addr → Prop} {δ : Sl} {A : Nat → Addr} {σ : Sg} {D : Ends} {f : Ev → R DB} {ms : List Nat} {k : DB → Out} {R' : VK} (S : SlR G H0 O0 δ A σ H) (h : kO G W H0 O0 D (onR (f (view ms δ)) δ k))
    (g : ∀ db v H', Same G H H' → SlR G H0 O0 (after ms db δ) A σ H' → SlR G H0 O0 (after ms db δ) A σ H → Res G H H' (Av O0 (after ms db δ) A) db v → kO G W H0 O0 D (k db) → R' v H') : rdE G W f σ H R' := by
  obtain ⟨hb, hr⟩ := S.rd0 ms
  refine ⟨_, _, hb, hr, ?_⟩
  cases e : f (view ms δ) with
  | ok db =>
    rw [e, onR_ok] at h
    intro v H' s r
    obtain ⟨S1, r1⟩ := S.after s r
    exact g db v H' s (S1.sameH s) S1 r1 h
  | err c => rw [e, onR_err] at h; exact kO_err ⟨A, S⟩ h
  | bad => rw [e, onR_bad] at h; exact h
theorem rx_set {i : Nat} {ow : Bool} {f : Ev → R DB} {ms : List Nat} {D : Ends} {σ : Sg} {H : Hp}
    (h : rdX G W (fun δ => onR (f (view ms δ)) δ fun d => .nx ((after ms d δ).set i (some (ow && d.2, d.1)))) D σ H) : rdE G W f σ H (fun v H1 => D.nx (σ.set i (some v)) H1) := by
  obtain ⟨δ, H0, O0, ⟨A, S⟩, h⟩ := h
  refine rx_E S h fun db v H' s _ S1 r h1 => ?_
  exact h1 _ _ (S1.setV s r)
theorem ds_set {i : Nat} {ow : Bool} {x : Str} {e : Expr} {f : Ev → R DB} {ms : List Nat} {pos pos' : Pos} (hN : X.N.Nodup) (hi : X.N[i]? = some x) (hx : Loc X.env.scope x) (hf : X.fn x = true ∨ X.env.scope.names.lookup x = some .local) (he : PE X e (rdE G W f))
    (hs : swapsWith e (some (.Name x pos')) pos.line X.env = pure false) :
    PS X (.Assign [.Name x pos'] e pos) (rdX G W fun δ => onR (f (view ms δ)) δ fun d => .nx ((after ms d δ).set i (some (ow && d.2, d.1)))) :=
  PS_imp (ps_set hN hi hx he hs hf) fun D σ H h => rx_set h
/-- unpacking -/
def rdGS (G : Gb) (tg : Tg) : TG := fun v σ H Q => ∃ (δ δ' : Sl) (H0 : Hp) (O0 : Addr → Prop) (A : Nat → Addr) (d : D), SlR G H0 O0 δ A σ H ∧ Den G H (Av O0 δ A) d v ∧ bindS tg d δ = some δ' ∧ ∀ σ', SlR G H0 O0 δ' A σ' H → Q σ' H
theorem own_set {δ : Sl} {A : Nat → Addr} {i : Nat} {d : D} {a : Addr} (h : Own (δ.set i (some (false, d))) A a) : Own δ A a := by
  obtain ⟨j, e, h, rfl⟩ := h
  rw [List.getElem?_set] at h
  split at h
  · split at h <;> simp at h
  · exact ⟨j, e, h, rfl⟩
theorem SlR.setVal {H0 H : Hp} {O0 : Addr → Prop} {δ : Sl} {A : Nat → Addr} {σ : Sg} {i : Nat} {d : D} {v : V} (S : SlR G H0 O0 δ A σ H) (r : Den G H (Av O0 δ A) d v) : SlR G H0 O0 (δ.set i (some (false, d))) A (σ.set i (some v)) H := by
  have sub : ∀ a, Av O0 (δ.set i (some (false, d))) A a → Av O0 δ A a := fun a z => z.elim .inl fun z => .inr (own_set z)
  have at_ : ∀ (j : Nat) (o : Bool) (e : D), (δ.set i (some (false, d)))[j]? = some (some (o, e)) → (j = i ∧ i < δ.length ∧ o = false ∧ e = d) ∨ (j ≠ i ∧ δ[j]? = some (some (o, e))) := fun j o e hj => by
    rw [List.getElem?_set] at hj
    by_cases c : i = j
    · subst c
      rw [if_pos rfl] at hj
      split at hj
      · rename_i hl
        simp at hj
        exact .inl ⟨rfl, hl, hj.1, hj.2.symm⟩
      · cases hj
    · rw [if_neg c] at hj
      exact .inr ⟨fun z => c z.symm, hj⟩
  refine ⟨S.same, S.bnd, by rw [List.length_set, List.length_set]; exact S.len, fun j e h => ?_, fun j k e f h1 h2 q => ?_, fun j e h => ?_⟩
  · rcases at_ j true e h with ⟨_, _, q, _⟩ | ⟨hne, q⟩
    · cases q
    · obtain ⟨k1, k2, o2, ds, xs, k3, k4, k5⟩ := S.own j e q
      exact ⟨by rw [List.getElem?_set_ne (Ne.symm hne)]; exact k1, k2, o2, ds, xs, k3, k4, k5.tr (Tr.same (G := G) (Same.refl _) fun x z => .inl (sub x z))⟩
  · rcases at_ j true e h1 with ⟨_, _, z, _⟩ | ⟨_, h1⟩
    · cases z
    · rcases at_ k true f h2 with ⟨_, _, z, _⟩ | ⟨_, h2⟩
      · cases z
      · exact S.inj j k e f h1 h2 q
  · rcases at_ j false e h with ⟨rfl, hl, _, rfl⟩ | ⟨hne, q⟩
    · exact ⟨v, by rw [List.getElem?_set_self (by rw [← S.len]; exact hl)], r.tr (Tr.same (G := G) (Same.refl _) fun x z => .inl (sub x z))⟩
    · obtain ⟨w, k1, k2⟩ := S.val j e q
      exact ⟨w, by rw [List.getElem?_set_ne (Ne.symm hne)]; exact k1, k2.tr (Tr.same (G := G) (Same.refl _) fun x z => .inl (sub x z))⟩
theorem dgs_nm {i : Nat} {x : Str} {pos : Pos} (hN : X.N.Nodup) (hi : X.N[i]? = some x) (hx : Loc X.env.scope x) (hf : X.fn x = true ∨ X.env.scope.names.lookup x = some .local) : PG X (.Name x pos) (rdGS G (.nm i)) := by
  refine PG_imp (pg_name hN hi hx hf) fun v σ H Q ⟨δ, δ', H0, O0, A, d, S, r, e, k⟩ => ?_
  have e' : δ.set i (some (false, d)) = δ' := Option.some.inj e
  subst e'
  exact k _ (S.setVal r)
theorem sub_bind {tg : Tg} : ∀ {d : D} {δ δ' : Sl} {A : Nat → Addr}, bindS tg d δ = some δ' → ∀ a, Own δ' A a → Own δ A a := by
  induction tg with
  | nm i =>
    intro d δ δ' A e a h
    have e' : δ.set i (some (false, d)) = δ' := Option.some.inj e
    subst e'
    exact own_set h
  | tp2 ta tb iha ihb =>
    intro d δ δ' A e a h
    cases d with
    | tup xs =>
      match xs, e with
      | [x, y], e =>
        obtain ⟨δ1, e1, e2⟩ := Option.bind_eq_some_iff.mp e
        exact iha e1 a (ihb e2 a h)
    | _ => simp [bindS] at e
  | tp3 ta tb tc iha ihb ihc =>
    intro d δ δ' A e a h
    cases d with
    | tup xs =>
      match xs, e with
      | [x, y, z], e =>
        obtain ⟨δ2, e1, e3⟩ := Option.bind_eq_some_iff.mp e
        obtain ⟨δ1, e1, e2⟩ := Option.bind_eq_some_iff.mp e1
        exact iha e1 a (ihb e2 a (ihc e3 a h))
    | _ => simp [bindS] at e
theorem den_sub {H : Hp} {O0 : Addr → Prop} {δ δ' : Sl} {A : Nat → Addr} {d : D} {v : V} (r : Den G H (Av O0 δ A) d v) (h : ∀ a, Own δ' A a → Own δ A a) : Den G H (Av O0 δ' A) d v :=
  r.tr (Tr.same (G := G) (Same.refl _) fun a z => .inl (z.elim .inl fun z => .inr (h a z)))
theorem dgs_tp2 {a b : Expr} {ta tb : Tg} {k : Nat} {pos : Pos} (hK : X.K = G.K) (hc : X.calm = true) (ha : PG X a (rdGS G ta)) (hb : PG X b (rdGS G tb))
    (h1 : assignEach [b] X.env = [(false, assign b X.env)]) (h2 : assignEach [a, b] X.env = [(false, assign a X.env), (false, assign b X.env)]) : PG X (.Tuple [a, b] k pos) (rdGS G (.tp2 ta tb)) := by
  refine PG_imp (pg_tup hc (pgs_cons ha (pgs_cons hb pgs_nil (by rw [h1] <;> rfl)) (by rw [h2, h1] <;> rfl)) (by rw [h2] <;> rfl) (by rw [h2] <;> rfl)) fun v σ H Q ⟨δ, δ', H0, O0, A, d, S, hd, e, k⟩ => ?_
  cases hd with
  | @tup p xs ds _ hd qd r =>
    have q : SqT G.K _ p xs := tO_sq qd
    cases r with
    | nil => simp [bindS] at e
    | cons r1 r2 =>
      cases r2 with
      | nil => simp [bindS] at e
      | cons r3 r4 =>
        cases r4 with
        | cons _ _ => simp [bindS] at e
        | nil =>
          simp only [bindS] at e
          obtain ⟨δ1, e1, e2⟩ := Option.bind_eq_some_iff.mp e
          rw [← hK] at q
          exact ⟨p, _, rfl, q, rfl, _, _, rfl, δ, δ1, H0, O0, A, _, S, r1, e1, fun σ1 S1 => ⟨_, _, rfl, δ1, δ', H0, O0, A, _, S1, den_sub r3 (sub_bind e1), e2, fun σ2 S2 => ⟨rfl, k σ2 S2⟩⟩⟩
  | _ => simp [bindS] at e
theorem dgs_tp3 {a b c : Expr} {ta tb tc : Tg} {k : Nat} {pos : Pos} (hK : X.K = G.K) (hc : X.calm = true) (ha : PG X a (rdGS G ta)) (hb : PG X b (rdGS G tb)) (hcc : PG X c (rdGS G tc))
    (h0 : assignEach [c] X.env = [(false, assign c X.env)]) (h1 : assignEach [b, c] X.env = [(false, assign b X.env), (false, assign c X.env)]) (h2 : assignEach [a, b, c] X.env = [(false, assign a X.env), (false, assign b X.env), (false, assign c X.env)]) :
    PG X (.Tuple [a, b, c] k pos) (rdGS G (.tp3 ta tb tc)) := by
  refine PG_imp (pg_tup hc (pgs_cons ha (pgs_cons hb (pgs_cons hcc pgs_nil (by rw [h0] <;> rfl)) (by rw [h1, h0] <;> rfl)) (by rw [h2, h1] <;> rfl)) (by rw [h2] <;> rfl) (by rw [h2] <;> rfl)) fun v σ H Q ⟨δ, δ', H0, O0, A, d, S, hd, e, k⟩ => ?_
  cases hd with
  | @tup p xs ds _ hd qd r =>
    have q : SqT G.K _ p xs := tO_sq qd
    cases r with
    | nil => simp [bindS] at e
    | cons r1 r2 =>
      cases r2 with
      | nil => simp [bindS] at e
      | cons r3 r4 =>
        cases r4 with
        | nil => simp [bindS] at e
        | cons r5 r6 =>
          cases r6 with
          | cons _ _ => simp [bindS] at e
          | nil =>
            simp only [bindS] at e
            obtain ⟨δ2, e1, e3⟩ := Option.bind_eq_some_iff.mp e
            obtain ⟨δ1, e1, e2⟩ := Option.bind_eq_some_iff.mp e1
            rw [← hK] at q
            exact ⟨p, _, rfl, q, rfl, _, _, rfl, δ, δ1, H0, O0, A, _, S, r1, e1, fun σ1 S1 => ⟨_, _, rfl, δ1, δ2, H0, O0, A, _, S1, den_sub r3 (sub_bind e1), e2, fun σ2 S2 => ⟨_, _, rfl, δ2, δ', H0, O0, A, _, S2, den_sub r5 fun a z => sub_bind e1 a (sub_bind e2 a z), e3, fun σ3 S3 => ⟨rfl, k σ3 S3⟩⟩⟩⟩
  | _ => simp [bindS] at e
theorem ds_unp {tgE e : Expr} {tg : Tg} {f : Ev → R DB} {ms : List Nat} {pos : Pos} (he : PE X e (rdE G W f)) (hg : PG X tgE (rdGS G tg)) (hs : swapsWithSole [tgE] e pos.line X.env = pure false) (hw : swappedStores [tgE] e X.env = pure none)
    (h1 : (assignEach [tgE] X.env).map (·.2) = [assign tgE X.env]) :
    PS X (.Assign [tgE] e pos) (rdX G W fun δ => onR (f (view ms δ)) δ fun d => match bindS tg d.1 (after ms d δ) with | some δ' => .nx δ' | none => .bad) := by
  refine PS_imp (ps_asg he hg hs hw h1) fun D σ H ⟨δ, H0, O0, ⟨A, S⟩, h⟩ => ?_
  refine rx_E S h fun db v H' s S1 S2 r h1 => ?_
  cases e : bindS tg db.1 (after ms db δ) with
  | none => simp only [e] at h1; exact False.elim h1
  | some δ' =>
    simp only [e] at h1
    exact ⟨_, δ', H0, O0, A, db.1, S1, r.den S2.bndA, e, fun σ' S' => h1 _ _ ⟨A, S'⟩⟩
theorem ds_drop {e : Expr} {f : Ev → R DB} {pos : Pos} (he : PE X e (rdE G W f)) (hs : swapsWith e none pos.line X.env = pure false) :
    PS X (.Expr e pos) (rdX G W fun δ => onR (f (view [] δ)) δ fun _ => .nx δ) := by
  refine PS_imp (ps_expr he hs) fun D σ H ⟨δ, H0, O0, ⟨A, S⟩, h⟩ => ?_
  refine rx_E S h fun db v H' s S1 S2 r h1 => ?_
  exact h1 _ _ ⟨A, S.sameH s⟩
theorem rx_all {H0 H : Hp} {O0 : Addr → Prop} {δ : Sl} {A : Nat → Addr} {σ : Sg} {D : Ends} {f : Ev → R DB} {k : DB → Out} {R' : VK} (S : SlR G H0 O0 δ A σ H) (h : kO G W H0 O0 D (onR (f (viewA δ)) δ k))
    (g : ∀ db v H', Same G H H' → SlR G H0 O0 δ A σ H' → Res G H H' O0 db v → kO G W H0 O0 D (k db) → R' v H') : rdE G W f σ H R' := by
  obtain ⟨hb, hr⟩ := S.rdAll
  refine ⟨_, _, hb, hr, ?_⟩
  cases e : f (viewA δ) with
  | ok db =>
    rw [e, onR_ok] at h
    intro v H' s r
    exact g db v H' s (S.sameH s) r h
  | err c => rw [e, onR_err] at h; exact kO_err ⟨A, S⟩ h
  | bad => rw [e, onR_bad] at h; exact h
theorem ds_ret {e : Expr} {f : Ev → R DB} {pos : Pos} (he : PE X e (rdE G W f)) : PS X (.Return (some e) pos) (rdX G W fun δ => onR (f (viewA δ)) δ fun d => .ret d) := by
  refine PS_imp (ps_ret he) fun D σ H ⟨δ, H0, O0, ⟨A, S⟩, h⟩ => ?_
  exact rx_all S h fun db v H' s S1 r h1 => h1 v H' S1.same (r.back S.same)
theorem ds_retV {i : Nat} {x : Str} {p pos : Pos} (hN : X.N[i]? = some x) (hv : Vis X.env.scope x) (hd : (x == ("__debug__" : Str)) = false) (hcd : (x == ("__classdict__" : Str)) = false) :
    PS X (.Return (some (.Name x p)) pos) (rdX G W fun δ => match δ[i]? with | some (some (ow, d)) => .ret (d, ow) | _ => .bad) := by
  refine PS_imp (ps_ret (pe_var hN hv hd hcd)) fun D σ H ⟨δ, H0, O0, ⟨A, S⟩, h⟩ => ?_
  cases e : δ[i]? with
  | none => simp only [e] at h; exact False.elim h
  | some o =>
    cases o with
    | none => simp only [e] at h; exact False.elim h
    | some q =>
      obtain ⟨ow, d⟩ := q
      simp only [e] at h
      cases ow with
      | true =>
        obtain ⟨g1, g2, o2, ds, xs, g3, g4, g5⟩ := S.own i d e
        refine ⟨_, g1, h _ _ S.same ?_⟩
        unfold Res
        rw [if_pos rfl]
        refine ⟨A i, o2, ds, xs, g3, rfl, g2, g4, g5.tr ⟨fun _ _ e => e, fun _ _ _ e => e, fun c ys _ e' n => ⟨e', fun z => n ?_⟩⟩⟩
        rcases z with z | z
        · exact .inl z
        · exact .inr ⟨i, d, e, z⟩
      | false =>
        obtain ⟨v, g1, g2⟩ := S.val i d e
        exact ⟨v, g1, h _ _ S.same (Res.of (g2.tr ⟨fun _ _ e => e, fun _ _ _ e => e, fun c ys _ e n => ⟨e, fun z => n (.inl z)⟩⟩))⟩
theorem ds_retN {pos : Pos} : PS X (.Return none pos) (rdX G W fun _ => .ret (.non, false)) :=
  PS_imp ps_retN fun D σ H ⟨δ, H0, O0, ⟨A, S⟩, h⟩ => h .non H S.same (Res.of .non)
theorem ds_pass {pos : Pos} : PS X (.Pass pos) (rdX G W fun δ => .nx δ) :=
  PS_imp ps_pass fun D σ H ⟨δ, H0, O0, S, h⟩ => h σ H S
theorem PSs_imp {st : List Stmt} {t t' : TS} (h : PSs X st t) (k : ∀ D σ H, t' D σ H → t D σ H) : PSs X st t' := ⟨fun pins s σ H D I q => h.run pins s σ H D I (k _ _ _ q)⟩
theorem dss_nil : PSs X [] (rdX G W fun δ => .nx δ) := PSs_imp pss_nil fun D σ H ⟨δ, H0, O0, S, h⟩ => h σ H S
theorem dss_cons {st : Stmt} {rest : List Stmt} {f g : Sl → Out} (h1 : PS X st (rdX G W f)) (h2 : PSs X rest (rdX G W g)) : PSs X (st :: rest) (rdX G W fun δ => (f δ).then g) := by
  refine PSs_imp (pss_cons h1 h2) fun D σ H ⟨δ, H0, O0, S, h⟩ => ⟨δ, H0, O0, S, ?_⟩
  dsimp only at h
  cases e : f δ with
  | nx δ' =>
    rw [e, Out.then_nx] at h
    exact fun σ' H' S' => ⟨δ', H0, O0, S', h⟩
  | ret d => rw [e, Out.then_ret] at h; exact h
  | err c δ' => rw [e, Out.then_err] at h; exact h
  | bad => rw [e, Out.then_bad] at h; exact h
theorem ds_if {c : Expr} {a b : List Stmt} {fc : Ev → R Bool} {f g : Sl → Out} {pos : Pos} (hc : PT X c (rdT G W fc)) (ha : PSs X a (rdX G W f)) (hb : PSs X b (rdX G W g)) :
    PS X (.If c a b pos) (rdX G W fun δ => onR (fc (viewA δ)) δ fun k => if k = true then f δ else g δ) := by
  refine PS_imp (ps_if hc ha hb) fun D σ H ⟨δ, H0, O0, ⟨A, S⟩, h⟩ => ?_
  dsimp only at h
  obtain ⟨hb, hr⟩ := S.rdAll
  refine ⟨_, _, hb, hr, ?_⟩
  cases e : fc (viewA δ) with
  | ok k =>
    rw [e, onR_ok] at h
    intro H' s
    cases k with
    | true => rw [if_pos rfl] at h ⊢; exact ⟨δ, H0, O0, ⟨A, S.sameH s⟩, h⟩
    | false => rw [if_neg (by simp)] at h ⊢; exact ⟨δ, H0, O0, ⟨A, S.sameH s⟩, h⟩
  | err c => rw [e, onR_err] at h; exact kO_err ⟨A, S⟩ h
  | bad => rw [e, onR_bad] at h; exact h
theorem ds_while {c : Expr} {body : List Stmt} {fc : Ev → R Bool} {f : Sl → Out} {pos : Pos} {n : Nat} (hp : PassesOwn (model X.prog X.w) X.A X.env X.xe) (hc : PT X c (rdT G W fc)) (hb : PSs X body (rdX G W f)) :
    PS X (.While c body [] pos) (rdX G W fun δ => whileL (fun δ => fc (viewA δ)) f n δ) := by
  refine PS_imp (ps_while hp hc hb) fun D σ H ⟨δ, H0, O0, S, h⟩ => ?_
  refine ⟨fun m σ H => ∃ δ, SlS G H0 O0 δ σ H ∧ kO G W H0 O0 D (whileL (fun δ => fc (viewA δ)) f m δ), ⟨n, δ, S, h⟩, ?_⟩
  rintro m σ H ⟨δ, ⟨A, S⟩, h⟩
  cases m with
  | zero => exact False.elim h
  | succ m =>
    obtain ⟨hb, hr⟩ := S.rdAll
    refine ⟨_, _, hb, hr, ?_⟩
    simp only [whileL] at h
    cases e : fc (viewA δ) with
    | ok k =>
      rw [e, onR_ok] at h
      intro H' s
      cases k with
      | true =>
        rw [if_pos rfl] at h ⊢
        refine ⟨fun σ H => ∃ δ, SlS G H0 O0 δ σ H ∧ kO G W H0 O0 D (whileL (fun δ => fc (viewA δ)) f m δ), fun σ' H' q => ⟨m, Nat.lt_succ_self m, q⟩, δ, H0, O0, ⟨A, S.sameH s⟩, ?_⟩
        cases e2 : f δ with
        | nx δ' => rw [e2, Out.then_nx] at h; exact fun σ' H' S' => ⟨δ', S', h⟩
        | ret d => rw [e2, Out.then_ret] at h; exact h
        | err c δ' => rw [e2, Out.then_err] at h; exact h
        | bad => rw [e2, Out.then_bad] at h; exact h
      | false => rw [if_neg (by simp)] at h ⊢; exact h _ _ ⟨A, S.sameH s⟩
    | err c => rw [e, onR_err] at h; exact kO_err ⟨A, S⟩ h
    | bad => rw [e, onR_bad] at h; exact h

/-! for -/
theorem frz_nil (δ : Sl) : frz [] δ = δ := by
  refine List.ext_getElem? fun i => ?_
  rw [frz_get]
  cases δ[i]? with
  | none => rfl
  | some o => cases o <;> simp
theorem frz_frz (ms : List Nat) (δ : Sl) : frz ms (if ms.isEmpty then δ else frz ms δ) = (if ms.isEmpty then δ else frz ms δ) := by
  by_cases h : ms.isEmpty = true
  · rw [if_pos h]
    have e0 : ms = [] := List.isEmpty_iff.mp h
    subst e0
    exact frz_nil δ
  · rw [if_neg h]
    refine List.ext_getElem? fun i => ?_
    rw [frz_get, frz_get]
    cases δ[i]? with
    | none => rfl
    | some o => cases o with
      | none => rfl
      | some p => simp [Bool.and_assoc]
open Classical in
noncomputable def cutH (δ : Sl) (A : Nat → Addr) (H : Hp) : Hp := fun a => if Own δ A a then none else H a
theorem cutH_some {δ : Sl} {A : Nat → Addr} {H : Hp} {a : Addr} {o : HO} (h : cutH δ A H a = some o) : ¬ Own δ A a ∧ H a = some o := by
  unfold cutH at h
  split at h
  · cases h
  · rename_i n
    exact ⟨n, h⟩
theorem cutH_of {δ : Sl} {A : Nat → Addr} {H : Hp} {a : Addr} (n : ¬ Own δ A a) : cutH δ A H a = H a := by
  unfold cutH
  rw [if_neg n]
theorem cutH_own {δ : Sl} {A : Nat → Addr} {H : Hp} {a : Addr} (n : Own δ A a) : cutH δ A H a = none := by
  unfold cutH
  rw [if_pos n]
theorem SlR.base {H0 H : Hp} {O0 : Addr → Prop} {δ : Sl} {A : Nat → Addr} {σ : Sg} (S : SlR G H0 O0 δ A σ H) : SlR G (cutH δ A H) O0 δ A σ H ∧ Same G H0 (cutH δ A H) := by
  have nO : ∀ a o, H0 a = some o → ¬ Own δ A a := by
    rintro a o e ⟨i, d, h, rfl⟩
    rw [(S.own i d h).2.1] at e
    cases e
  have s0 : Same G H0 (cutH δ A H) := ⟨fun a o e n => by
    rw [cutH_of (nO a o e)]
    exact S.same.ob a o e n, fun P q t => tabs_keep (fun b o e h1 => by
      rw [cutH_of]
      · exact e
      · rintro ⟨i, d, h, rfl⟩
        obtain ⟨_, _, o', ds, xs, bx, e', _⟩ := S.own i d h
        rw [e'] at e
        cases e
        have ix := bx.is
        exact h1 ix) (S.same.tb P q t), fun b z => by
    have : ¬ Own δ A b := by
      rintro ⟨i, d, h, rfl⟩
      exact z (S.own i d h).2.1
    rw [cutH_of this]
    exact S.same.th b z⟩
  exact ⟨⟨.of fun a o e => (cutH_some e).2, S.bnd.same s0, S.len, fun i d h => let ⟨g1, _, g3⟩ := S.own i d h; ⟨g1, cutH_own ⟨i, d, h, rfl⟩, g3⟩, S.inj, S.val⟩, s0⟩
theorem SlR.unbase {H0 HB H : Hp} {O0 : Addr → Prop} {δ : Sl} {A : Nat → Addr} {σ : Sg} (s : Same G H0 HB) (hb : Bnd G O0 H0) (S : SlR G HB O0 δ A σ H) : SlR G H0 O0 δ A σ H :=
  ⟨s.trans S.same, hb, S.len, fun i d h => let ⟨g1, g2, g3⟩ := S.own i d h; ⟨g1, s.free g2, g3⟩, S.inj, S.val⟩
theorem kO.base {H0 HB : Hp} {O0 : Addr → Prop} {D : Ends} {o : Out} (s : Same G H0 HB) (hb : Bnd G O0 H0) (h : kO G W H0 O0 D o) : kO G W HB O0 D o := by
  cases o with
  | nx δ => exact fun σ H ⟨A, S⟩ => h σ H ⟨A, S.unbase s hb⟩
  | ret db => exact fun v H s' r => h v H (s.trans s') (r.back s)
  | err c δ => exact fun σ H ⟨A, S⟩ => h σ H ⟨A, S.unbase s hb⟩
  | bad => exact h
theorem ds_for {tgE iter : Expr} {body : List Stmt} {tg : Tg} {fs : Ev → R (List D)} {f : Sl → Out} {ms : List Nat} {pos : Pos} (hp : PassesOwn (model X.prog X.w) X.A X.env X.xe) (hc : X.calm = true) (hi : PI X tgE iter (rdS G W fs)) (hg : PG X tgE (rdGS G tg)) (hb : PSs X body (rdX G W f))
    (hs : ∀ x, foldedSetIterable iter X.env x = pure x) :
    PS X (.For tgE iter body [] pos) (rdX G W fun δ => onR (fs (view ms δ)) δ fun xs => forL (fun x δ => match bindS tg x δ with | some δ' => f δ' | none => .bad) xs (if ms.isEmpty then δ else frz ms δ)) := by
  refine PS_imp (ps_for hp hc hi hg hb hs) fun D σ H ⟨δ, H0, O0, ⟨A, S⟩, h⟩ => ?_
  dsimp only at h
  obtain ⟨hb, hr⟩ := S.rd0 ms
  refine ⟨_, _, hb, hr, ?_⟩
  cases e : fs (view ms δ) with
  | err c => rw [e, onR_err] at h; exact kO_err ⟨A, S⟩ h
  | bad => rw [e, onR_bad] at h; exact h
  | ok items =>
    rw [e, onR_ok] at h
    intro J H1 s1 hlen hIt
    have SF : SlR G H0 O0 (if ms.isEmpty then δ else frz ms δ) A σ H1 := by
      split
      · exact S.sameH s1
      · exact (SlR.frz ms S).sameH s1
    have eO : ∀ a, AvM O0 δ A ms a ↔ Av O0 (if ms.isEmpty then δ else frz ms δ) A a := fun a => by
      unfold AvM Av
      by_cases hm : ms.isEmpty = true
      · rw [if_pos hm]
        have e0 : ms = [] := List.isEmpty_iff.mp hm
        subst e0
        rw [frz_nil]
      · rw [if_neg hm]
    generalize (if ms.isEmpty then δ else frz ms δ) = δ1 at h SF eO
    obtain ⟨SB, sB⟩ := SF.base
    have hB := kO.base sB S.bnd h
    have noL : ∀ a o, H1 a = some o → (¬ isBx o) → cutH δ1 A H1 a = some o := fun a o q n => by
      rw [cutH_of]
      · exact q
      · rintro ⟨i, d, z, rfl⟩
        obtain ⟨_, _, o2, _, _, bx, g, _⟩ := SF.own i d z
        rw [q] at g
        exact n (Option.some.inj g ▸ bx.is)
    have tb : Tr H1 (AvM O0 δ A ms) (cutH δ1 A H1) O0 :=
      { tup := fun a xs q => noL a _ q (fun z => z)
        frz := fun a o u q => noL a _ q (fun z => z)
        box := fun a xs _ q n => by
          refine ⟨?_, fun z => n (.inl z)⟩
          rw [cutH_of]
          · exact q
          · exact fun z => n ((eO a).mpr (.inr z)) }
    have hI := hIt _ _ tb
    generalize cutH δ1 A H1 = HB at SB hB hI
    refine ⟨fun i m σ H => m = items.length - i ∧ i ≤ items.length ∧ ∃ δi, SlS G HB O0 δi σ H ∧ kO G W HB O0 D (forL (fun x δ => match bindS tg x δ with | some δ' => f δ' | none => .bad) (items.drop i) δi),
      ⟨items.length, rfl, Nat.zero_le _, δ1, ⟨A, SB⟩, hB⟩, ?_⟩
    rintro i m σ' H' ⟨rfl, hi, δi, ⟨Ai, Si⟩, hk⟩
    by_cases hlt : i < items.length
    · have hd : items[i]? = some items[i] := List.getElem?_eq_getElem hlt
      obtain ⟨hgo, hyl⟩ := (hI H' Si.same i).1 _ hd
      have ed : items.drop i = items[i] :: items.drop (i + 1) := by rw [List.drop_eq_getElem_cons hlt]
      rw [ed] at hk
      simp only [forL] at hk
      refine .inr ⟨hgo, fun σ H => ∃ δi, SlS G HB O0 δi σ H ∧ kO G W HB O0 D (forL (fun x δ => match bindS tg x δ with | some δ' => f δ' | none => .bad) (items.drop (i + 1)) δi),
        fun σ2 H2 q => ⟨items.length - (i + 1), by omega, rfl, hlt, q⟩, fun x H2 y => ?_⟩
      obtain ⟨s2, hdx⟩ := hyl x H2 y
      cases eb : bindS tg items[i] δi with
      | none => rw [eb] at hk; exact False.elim hk
      | some δ' =>
        rw [eb] at hk
        simp only at hk
        refine ⟨δi, δ', HB, O0, Ai, items[i], Si.sameH s2, hdx _ fun a z => ?_, eb, fun σ3 S3 => ⟨δ', HB, O0, ⟨Ai, S3⟩, ?_⟩⟩
        · rcases z with z | ⟨j, d, z, rfl⟩
          · exact .inl z
          · exact .inr (Si.own j d z).2.1
        · cases e2 : f δ' with
          | nx δ'' => rw [e2, Out.then_nx] at hk; exact fun σ' H' S' => ⟨δ'', S', hk⟩
          | ret d => rw [e2, Out.then_ret] at hk; exact hk
          | err c δ'' => rw [e2, Out.then_err] at hk; exact hk
          | bad => rw [e2, Out.then_bad] at hk; exact hk
    · have e : i = items.length := by omega
      subst e
      rw [List.drop_length] at hk
      exact .inl ⟨(hI H' Si.same _).2 (Nat.le_refl _), hk _ _ ⟨Ai, Si⟩⟩
end
end SS

set_option maxRecDepth 100000
set_option maxHeartbeats 4000000
/-! SSK: more statements -/
namespace SS
open PySem PySem.Spec PyProof.Rows L2
section
variable {G : Gb} {W : WX} {X : Cx}
theorem rdt_true {σ : Sg} {H : Hp} {Q : Bool → Hp → Prop} (h : rdT G W0 (fun _ => .ok true) σ H Q) : tYes σ H Q := by
  obtain ⟨ρ, O, _, _, h⟩ := h
  exact h H (Same.refl _)
/-- name = [..] -/
theorem ds_setc {i : Nat} {ow : Bool} {y : Str} {py pos spos : Pos} {elt tgE iter : Expr} {ifs : List Expr} {scope : Scope} {own : List (Str × Nat)} {fs : Ev → R (List D)} {tg : Tg} {ft : Ev → R Bool} {fe : Ev → R DB} {tt : TT} {ms : List Nat}
    (htt : ∀ σ H Q, rdT G W0 ft σ H Q → tt σ H Q) (hts : ∀ i ∈ tgSlots tg, i ∈ own.map (·.2))
    (hc : X.calm = true) (hN : X.N.Nodup) (hy : X.N[i]? = some y) (hyl : X.env.scope.names.lookup y = some .local)
    (hsw : swapsWith (.ListComp elt [⟨tgE, iter, ifs, 0⟩] scope pos) (some (.Name y py)) spos.line X.env = pure true) (hi : PI X tgE iter (rdS G W fs)) (ok : BlkOk X.N X.env.scope scope own)
    (hg : ∀ (s : Shared) (H : Hp) (C : Addr) (cl : List (Str × Addr)) (fp : List Addr), PG (X.blk s H scope (compEnvC scope cl C X.env) fp) tgE (rdG G tg)) (ht : ∀ (s : Shared) (H : Hp) (C : Addr) (cl : List (Str × Addr)) (fp : List Addr), PTs (X.blk s H scope (compEnvC scope cl C X.env) fp) ifs tt)
    (he : ∀ (s : Shared) (H : Hp) (C : Addr) (cl : List (Str × Addr)) (fp : List Addr), PE (X.blk s H scope (compEnvC scope cl C X.env) fp) elt (rdE G W0 fe)) (hs : ∀ x, foldedSetIterable iter X.env x = pure x) :
    PS X (.Assign [.Name y py] (.ListComp elt [⟨tgE, iter, ifs, 0⟩] scope pos) spos)
      (rdX G W fun δ => onR ((fun ρ => (fs ρ).bind fun xs => noErr ((compL (turnF tg ft fe (own.map (·.2)) ρ) xs).bind fun ys => .ok (.lst ys, true))) (view ms δ)) δ fun d => .nx ((after ms d δ).set i (some (ow && d.2, d.1)))) :=
  PS_imp (ps_setLc hc hN hy hyl hsw hi ok hg ht he hs) fun D σ H h => rd_comp htt hts (rx_set h)
/-- name = [.. for .. for ..] -/
theorem ds_setc2 {i : Nat} {ow : Bool} {y : Str} {py pos spos : Pos} {elt tgE iter tgE1 iter1 : Expr} {scope : Scope} {own : List (Str × Nat)} {own1 : List Nat} {fs fs1 : Ev → R (List D)} {tg tg1 : Tg} {fe : Ev → R DB} {ms : List Nat}
    (hts : ∀ i ∈ tgSlots tg, i ∈ own.map (·.2)) (hts1 : ∀ i ∈ tgSlots tg1, i ∈ own1) (hv : ∀ i ∈ own1, i ∈ own.map (·.2))
    (hc : X.calm = true) (hN : X.N.Nodup) (hy : X.N[i]? = some y) (hyl : X.env.scope.names.lookup y = some .local)
    (hsw : swapsWith (.ListComp elt [⟨tgE, iter, [], 0⟩, ⟨tgE1, iter1, [], 0⟩] scope pos) (some (.Name y py)) spos.line X.env = pure true) (hi : PI X tgE iter (rdS G W fs)) (ok : BlkOk X.N X.env.scope scope own)
    (hg : ∀ (s : Shared) (H : Hp) (C : Addr) (cl : List (Str × Addr)) (fp : List Addr), PG (X.blk s H scope (compEnvC scope cl C X.env) fp) tgE (rdG G tg))
    (hi1 : ∀ (s : Shared) (H : Hp) (C : Addr) (cl : List (Str × Addr)) (fp : List Addr), PI (X.blk s H scope (compEnvC scope cl C X.env) fp) tgE1 iter1 (rdS G W0 fs1))
    (hg1 : ∀ (s : Shared) (H : Hp) (C : Addr) (cl : List (Str × Addr)) (fp : List Addr), PG (X.blk s H scope (compEnvC scope cl C X.env) fp) tgE1 (rdG G tg1))
    (he : ∀ (s : Shared) (H : Hp) (C : Addr) (cl : List (Str × Addr)) (fp : List Addr), PE (X.blk s H scope (compEnvC scope cl C X.env) fp) elt (rdE G W0 fe)) (hs : ∀ x, foldedSetIterable iter X.env x = pure x) (hs1 : ∀ env x, foldedSetIterable iter1 env x = pure x) :
    PS X (.Assign [.Name y py] (.ListComp elt [⟨tgE, iter, [], 0⟩, ⟨tgE1, iter1, [], 0⟩] scope pos) spos)
      (rdX G W fun δ => onR ((fun ρ => (fs ρ).bind fun xs => noErr ((catL (turn2 tg fs1 tg1 (fun _ => .ok true) fe (own.map (·.2)) own1 ρ) xs).bind fun zs => okIf (decide (zs.length ≤ szl)) (.lst zs, true))) (view ms δ)) δ fun d => .nx ((after ms d δ).set i (some (ow && d.2, d.1)))) :=
  PS_imp (ps_setLc2 hc hN hy hyl hsw hi ok hv hg (fun _ _ _ _ _ => pts_nil) hi1 hg1 (fun _ _ _ _ _ => pts_nil) he hs hs1) fun D σ H h => rd_comp2 (fun _ _ _ h => rdt_true h) hts hts1 (rx_set h)
theorem frz_append {ms : List Nat} {δ P : Sl} (h : ∀ m ∈ ms, m < δ.length) : frz ms (δ ++ P) = frz ms δ ++ P := by
  refine List.ext_getElem? fun i => ?_
  rw [frz_get]
  by_cases hi : i < δ.length
  · rw [List.getElem?_append_left hi, List.getElem?_append_left (by rw [frz_len]; exact hi), frz_get]
  · rw [List.getElem?_append_right (by omega), List.getElem?_append_right (by rw [frz_len]; omega), frz_len]
    have hc : ms.contains i = false := by
      cases q : ms.contains i with
      | false => rfl
      | true =>
        have := h i (by simpa using q)
        omega
    rw [hc]
    cases P[i - δ.length]? with
    | none => rfl
    | some o => cases o with
      | none => rfl
      | some p => simp
theorem after_append {ms : List Nat} {db : DB} {δ P : Sl} (h : ∀ m ∈ ms, m < δ.length) : after ms db (δ ++ P) = after ms db δ ++ P := by
  unfold after
  split
  · rfl
  · exact frz_append h
theorem after_len {ms : List Nat} {db : DB} {δ : Sl} : (after ms db δ).length = δ.length := by
  unfold after
  split
  · rfl
  · exact frz_len _ _
/-- an expression while values wait -/
theorem rx_Ex {H0 H : Hp} {O0 : Addr → Prop} {δ P : Sl} {A : Nat → Addr} {σ τ : Sg} {D : Ends} {f : Ev → R DB} {ms : List Nat} {k : DB → Out} {R' : VK} (S : SlR G H0 O0 (δ ++ P) A (σ ++ τ) H) (hl : δ.length = σ.length) (hms : ∀ m ∈ ms, m < δ.length)
    (h : kO G W H0 O0 D (onR (f (view ms δ)) δ k))
    (g : ∀ db v H', Same G H H' → SlR G H0 O0 (after ms db δ ++ P) A (σ ++ τ) H → Res G H H' (Av O0 (after ms db δ ++ P) A) db v → kO G W H0 O0 D (k db) → R' v H') : rdE G W f σ H R' := by
  obtain ⟨hb, hr⟩ := SlR.rd ms S hl
  refine ⟨_, _, hb, hr, ?_⟩
  cases e : f (view ms δ) with
  | ok db =>
    rw [e, onR_ok] at h
    intro v H' s r
    obtain ⟨S1, r1⟩ := S.after s r
    rw [after_append hms] at S1 r1
    exact g db v H' s S1 r1 h
  | err c =>
    rw [e, onR_err] at h
    have S' : SlR G H0 O0 δ A σ H := S.reindex (fun i => i) hl (fun _ _ _ _ e => e) (fun i hi => (List.getElem?_append_left hi).symm) (fun i hi => (List.getElem?_append_left (by omega)).symm)
    exact kO_err ⟨A, S'⟩ h
  | bad => rw [e, onR_bad] at h; exact h
theorem ds_par2 {i j : Nat} {oi oj : Bool} {x y : Str} {a b : Expr} {f g : Ev → R DB} {ms : List Nat} {px py pt : Pos} {kt k2 : Nat} {pt2 pos : Pos} (hc : X.calm = true) (hN : X.N.Nodup) (hi : X.N[i]? = some x) (hj : X.N[j]? = some y) (hij : i ≠ j)
    (hx : X.env.scope.names.lookup x = some .local) (hy : X.env.scope.names.lookup y = some .local) (ha : PE X a (rdE G W f)) (hb : PE X b (rdE G W g)) (hms : ∀ m ∈ ms, m < X.N.length)
    (hw : swappedStores [.Tuple [.Name x px, .Name y py] kt pt] (.Tuple [a, b] k2 pt2) X.env = pure (some [x, y]))
    (hs : swapsWithSole [.Tuple [.Name x px, .Name y py] kt pt] (.Tuple [a, b] k2 pt2) pos.line X.env = pure false)
    (s1 : starEach [b] X.env = (false, eval b X.env) :: starEach [] X.env) (s2 : starEach [a, b] X.env = (false, eval a X.env) :: starEach [b] X.env) :
    PS X (.Assign [.Tuple [.Name x px, .Name y py] kt pt] (.Tuple [a, b] k2 pt2) pos) (rdX G W fun δ => if δ.length = X.N.length then onR (f (view ms δ)) δ fun d => onR (g (view ms (after ms d δ))) (after ms d δ) fun e =>
      .nx (((after ms e (after ms d δ)).set i (some (oi && d.2, d.1))).set j (some (oj && e.2, e.1))) else .bad) := by
  refine PS_imp (ps_par hc hN hi hj hij hx hy (pa_cons ha (pa_cons hb pa_nil s1) s2) hw hs) fun D σ H ⟨δ, H0, O0, ⟨A, S⟩, h⟩ => ?_
  dsimp only at h
  split at h
  · rename_i hlen
    have hj' : j < δ.length := by rw [hlen]; exact (List.getElem?_eq_some_iff.mp hj).1
    refine rx_E S h fun db v H1 s _ S1 r h1 => ?_
    obtain ⟨A1, S2⟩ := S1.push (ow := oi) s r
    refine rx_Ex S2 (by rw [after_len]; exact S.len) (fun m hm => by rw [after_len, hlen]; exact hms m hm) h1 fun db2 v2 H2 s2 S3 r2 h2 => ?_
    obtain ⟨A2, S4⟩ := S3.push (ow := oj) s2 r2
    obtain ⟨A3, S5⟩ := S4.move2 (i := i) (j := j) (by rw [after_len, after_len]; exact S.len) hij (by rw [after_len, after_len]; exact hj')
    exact ⟨v, v2, rfl, h2 _ _ ⟨A3, S5⟩⟩
  · exact False.elim h
theorem ds_par3 {i j l : Nat} {oi oj ol : Bool} {x y z : Str} {a b c : Expr} {f g e : Ev → R DB} {ms : List Nat} {px py pz pt : Pos} {kt k2 : Nat} {pt2 pos : Pos} (hc : X.calm = true) (hN : X.N.Nodup) (hi : X.N[i]? = some x) (hj : X.N[j]? = some y) (hl : X.N[l]? = some z) (hij : i ≠ j) (hil : i ≠ l) (hjl : j ≠ l)
    (hx : X.env.scope.names.lookup x = some .local) (hy : X.env.scope.names.lookup y = some .local) (hz : X.env.scope.names.lookup z = some .local) (ha : PE X a (rdE G W f)) (hb : PE X b (rdE G W g)) (hcc : PE X c (rdE G W e)) (hms : ∀ m ∈ ms, m < X.N.length)
    (hw : swappedStores [.Tuple [.Name x px, .Name y py, .Name z pz] kt pt] (.Tuple [a, b, c] k2 pt2) X.env = pure (some [x, y, z]))
    (hs : swapsWithSole [.Tuple [.Name x px, .Name y py, .Name z pz] kt pt] (.Tuple [a, b, c] k2 pt2) pos.line X.env = pure false)
    (s0 : starEach [c] X.env = (false, eval c X.env) :: starEach [] X.env) (s1 : starEach [b, c] X.env = (false, eval b X.env) :: starEach [c] X.env) (s2 : starEach [a, b, c] X.env = (false, eval a X.env) :: starEach [b, c] X.env) :
    PS X (.Assign [.Tuple [.Name x px, .Name y py, .Name z pz] kt pt] (.Tuple [a, b, c] k2 pt2) pos) (rdX G W fun δ => if δ.length = X.N.length then onR (f (view ms δ)) δ fun d => onR (g (view ms (after ms d δ))) (after ms d δ) fun q =>
      onR (e (view ms (after ms q (after ms d δ)))) (after ms q (after ms d δ)) fun r =>
      .nx ((((after ms r (after ms q (after ms d δ))).set i (some (oi && d.2, d.1))).set j (some (oj && q.2, q.1))).set l (some (ol && r.2, r.1))) else .bad) := by
  refine PS_imp (ps_par3 hc hN hi hj hl hij hil hjl hx hy hz (pa_cons ha (pa_cons hb (pa_cons hcc pa_nil s0) s1) s2) hw hs) fun D σ H ⟨δ, H0, O0, ⟨A, S⟩, h⟩ => ?_
  dsimp only at h
  split at h
  · rename_i hlen
    have hj' : j < δ.length := by rw [hlen]; exact (List.getElem?_eq_some_iff.mp hj).1
    have hl' : l < δ.length := by rw [hlen]; exact (List.getElem?_eq_some_iff.mp hl).1
    refine rx_E S h fun db v H1 s _ S1 r h1 => ?_
    obtain ⟨A1, S2⟩ := S1.push (ow := oi) s r
    refine rx_Ex S2 (by rw [after_len]; exact S.len) (fun m hm => by rw [after_len, hlen]; exact hms m hm) h1 fun db2 v2 H2 s2 S3 r2 h2 => ?_
    obtain ⟨A2, S4⟩ := S3.push (ow := oj) s2 r2
    rw [List.append_assoc, List.append_assoc] at S4
    refine rx_Ex S4 (by rw [after_len, after_len]; exact S.len) (fun m hm => by rw [after_len, after_len, hlen]; exact hms m hm) h2 fun db3 v3 H3 s3 S5 r3 h3 => ?_
    obtain ⟨A4, S6⟩ := S5.push (ow := ol) s3 r3
    rw [← List.append_assoc, ← List.append_assoc] at S6
    obtain ⟨A5, S7⟩ := S6.move3 (i := i) (j := j) (k := l) (by rw [after_len, after_len, after_len]; exact S.len) hij hil hjl (by rw [after_len, after_len, after_len]; exact hj') (by rw [after_len, after_len, after_len]; exact hl')
    exact ⟨v, v2, v3, rfl, h3 _ _ ⟨A5, S7⟩⟩
  · exact False.elim h

/-! ### lists that grow -/
theorem after_own {ms : List Nat} {db : DB} {δ : Sl} {i : Nat} {d : D} (h : (after ms db δ)[i]? = some (some (true, d))) : δ[i]? = some (some (true, d)) := by
  unfold after at h
  split at h
  · exact h
  · obtain ⟨o, h1, h2⟩ := frz_at h
    have := and_l h2
    subst this
    exact h1
theorem isOwn_of {i : Nat} {δ : Sl} (h : isOwn i δ = true) : ∃ ds, δ[i]? = some (some (true, .lst ds)) := by
  unfold isOwn at h
  split at h
  · rename_i xs e
    exact ⟨xs, e⟩
  · cases h
theorem ds_app {i : Nat} {x : Str} {e : Expr} {f : Ev → R DB} {ms : List Nat} {p apos cpos pos : Pos} (hN : X.N[i]? = some x) (hv : Vis X.env.scope x) (hd : (x == ("__debug__" : Str)) = false) (hcd : (x == ("__classdict__" : Str)) = false) (he : PE X e (rdE G W f))
    (hline : (apos.endLine == cpos.line) = true) (hs : starEach [e] X.env = (false, eval e X.env) :: starEach [] X.env) :
    PS X (.Expr (.Call (.Attribute (.Name x p) "append" apos) [e] [] cpos) pos) (rdX G W fun δ => if isOwn i δ = true then onR (f (view ms δ)) δ fun d => appL i d (after ms d δ) else .bad) := by
  refine PS_imp (ps_expr (pe_bm PySem.F.plainAttrs_list PySem.F.slot_list_append PySem.F.type_list_append mt_append (pe_var hN hv hd hcd) (pa_cons he pa_nil hs) rfl (by rw [hs] <;> rfl) hline hs (by rfl)) rfl) fun D σ H ⟨δ, H0, O0, ⟨A, S⟩, h⟩ => ?_
  dsimp only at h
  split at h
  · rename_i ho
    obtain ⟨ds, e0⟩ := isOwn_of ho
    obtain ⟨g1, g2, _, _, xs, bx0, g4, g5⟩ := S.own i _ e0
    cases bx0
    refine ⟨_, g1, .inl ⟨rfl, _, .inl (.inl g4)⟩, ?_⟩
    refine rx_E S h fun db v H1 s S1 S2 r h1 => ?_
    unfold appL at h1
    split at h1
    · rename_i ys e1
      split at h1
      · rename_i hz
        obtain ⟨k1, k2, _, _, zs, k3, k4, k5⟩ := S1.own i _ e1
        cases k3
        refine ⟨A i, zs, v, rfl, rfl, k4, ?_, ?_⟩
        · rw [← k5.length, ← szl_eq]; exact hz
        · have q := S1.writeB e1 (.lst _ _) (k5.append (.cons (r.den S2.bndA) .nil))
          exact h1 _ _ ⟨A, q⟩
      · exact False.elim h1
    · exact False.elim h1
  · exact False.elim h
theorem ds_ext {i : Nat} {x : Str} {e : Expr} {f : Ev → R DB} {ms : List Nat} {p apos cpos pos : Pos} (hN : X.N[i]? = some x) (hv : Vis X.env.scope x) (hd : (x == ("__debug__" : Str)) = false) (hcd : (x == ("__classdict__" : Str)) = false) (he : PE X e (rdE G W f))
    (hline : (apos.endLine == cpos.line) = true) (hs : starEach [e] X.env = (false, eval e X.env) :: starEach [] X.env) :
    PS X (.Expr (.Call (.Attribute (.Name x p) "extend" apos) [e] [] cpos) pos) (rdX G W fun δ => if isOwn i δ = true then onR (f (view ms δ)) δ fun d => extL i d (after ms d δ) else .bad) := by
  refine PS_imp (ps_expr (pe_bm PySem.F.plainAttrs_list PySem.F.slot_list_extend PySem.F.type_list_extend mt_extend (pe_var hN hv hd hcd) (pa_cons he pa_nil hs) rfl (by rw [hs] <;> rfl) hline hs (by rfl)) rfl) fun D σ H ⟨δ, H0, O0, ⟨A, S⟩, h⟩ => ?_
  dsimp only at h
  split at h
  · rename_i ho
    obtain ⟨ds, e0⟩ := isOwn_of ho
    obtain ⟨g1, g2, _, _, xs, bx0, g4, g5⟩ := S.own i _ e0
    cases bx0
    refine ⟨_, g1, .inl ⟨rfl, _, .inl (.inl g4)⟩, ?_⟩
    refine rx_E S h fun db v H1 s S1 S2 r h1 => ?_
    unfold extL at h1
    split at h1
    · rename_i ys zs e1 e2
      split at h1
      · rename_i hz
        obtain ⟨k1, k2, _, _, us, k3, k4, k5⟩ := S1.own i _ e1
        cases k3
        have rd := r.den S2.bndA
        rw [e2] at rd
        cases rd with
        | @lst b ws _ q1 q2 q3 =>
          refine ⟨A i, b, us, ws, rfl, rfl, k4, q1, ?_, ?_⟩
          · rw [← k5.length, ← q3.length, ← szl_eq]; exact hz
          · have q := S1.writeB e1 (.lst _ _) (k5.append q3)
            exact h1 _ _ ⟨A, q⟩
      · exact False.elim h1
    · exact False.elim h1
  · exact False.elim h
theorem erase_ix {n : Int} : ∀ {ns : List Int}, n ∈ ns → ∃ j, ns[j]? = some n ∧ (∀ m : Nat, m < j → ns[m]? ≠ some n) ∧ ns.eraseIdx j = ns.erase n
  | [], h => by simp at h
  | m :: r, h => by
    by_cases e : m = n
    · subst e
      exact ⟨0, rfl, fun k hk => absurd hk (Nat.not_lt_zero _), by simp⟩
    · have h' : n ∈ r := by
        rcases List.mem_cons.mp h with z | z
        · exact absurd z.symm e
        · exact z
      obtain ⟨j, h1, h2, h3⟩ := erase_ix h'
      refine ⟨j + 1, by simpa using h1, fun k hk => ?_, ?_⟩
      · cases k with
        | zero => simp [e]
        | succ k => simpa using h2 k (by omega)
      · rw [List.eraseIdx_cons_succ, h3, List.erase_cons_tail (by simpa using e)]
theorem ds_rem {i : Nat} {x : Str} {e : Expr} {f : Ev → R DB} {p apos cpos pos : Pos} (hN : X.N[i]? = some x) (hv : Vis X.env.scope x) (hd : (x == ("__debug__" : Str)) = false) (hcd : (x == ("__classdict__" : Str)) = false) (he : PE X e (rdE G W f))
    (hline : (apos.endLine == cpos.line) = true) (hs : starEach [e] X.env = (false, eval e X.env) :: starEach [] X.env) :
    PS X (.Expr (.Call (.Attribute (.Name x p) "remove" apos) [e] [] cpos) pos) (rdX G W fun δ => if isOwn i δ = true then onR (f (view [] δ)) δ fun d => remL i d δ else .bad) := by
  refine PS_imp (ps_expr (pe_bm PySem.F.plainAttrs_list PySem.F.slot_list_remove PySem.F.type_list_remove mt_remove (pe_var hN hv hd hcd) (pa_cons he pa_nil hs) rfl (by rw [hs] <;> rfl) hline hs (by rfl)) rfl) fun D σ H ⟨δ, H0, O0, ⟨A, S⟩, h⟩ => ?_
  dsimp only at h
  split at h
  · rename_i ho
    obtain ⟨ds, e0⟩ := isOwn_of ho
    obtain ⟨g1, g2, _, _, xs, bx0, g4, g5⟩ := S.own i _ e0
    cases bx0
    refine ⟨_, g1, .inl ⟨rfl, _, .inl (.inl g4)⟩, ?_⟩
    refine rx_E S h fun db v H1 s S1 S2 r h1 => ?_
    unfold remL at h1
    split at h1
    · rename_i ys n e1 e2
      obtain ⟨k1, k2, _, _, us, k3, k4, k5⟩ := (S.sameH s).own i _ e1
      cases k3
      cases e3 : ints? ys with
      | none => rw [e3] at h1; exact False.elim h1
      | some ns =>
        rw [e3] at h1
        simp only at h1
        split at h1
        · rename_i hz
          have rd := r.den S2.bndA
          rw [e2] at rd
          cases rd
          obtain ⟨j, j1, j2, j3⟩ := erase_ix hz
          obtain ⟨q1, q2⟩ := k5.ints e3
          subst q1
          refine ⟨A i, ns, n, j, rfl, rfl, k4, j1, j2, ?_⟩
          rw [j3]
          exact h1 _ _ ⟨A, (S.sameH s).writeB e1 (.lst _ _) (DenL.ofInts _)⟩
        · exact False.elim h1
    · exact False.elim h1
  · exact False.elim h
/-! ### dicts -/
theorem isOwnK_of {i : Nat} {δ : Sl} (h : isOwnK i δ = true) : ∃ ks ds, δ[i]? = some (some (true, .dct ks ds)) := by
  unfold isOwnK at h
  split at h
  · rename_i ks ds e
    exact ⟨ks, ds, e⟩
  · cases h
theorem inl_inj : ∀ {a b : List Int}, (a.map Sum.inl : List Key) = b.map Sum.inl → a = b
  | [], [], _ => rfl
  | [], _ :: _, h => by cases h
  | _ :: _, [], h => by cases h
  | x :: xs, y :: ys, h => by
    simp only [List.map_cons, List.cons.injEq] at h
    rw [Sum.inl.inj h.1, inl_inj h.2]
theorem kvz_any (q : List Int) : ∀ (ks : List (List Int)) (xs : List V), ks.length = xs.length → ((kvz ks xs).any fun kv => decide (kv.1 = (q.map Sum.inl : List Key))) = decide (q ∈ ks)
  | [], [], _ => by simp [kvz]
  | [], _ :: _, h => by simp at h
  | _ :: _, [], h => by simp at h
  | k :: ks, x :: xs, h => by
    have ih := kvz_any q ks xs (by simpa using h)
    unfold kvz at ih ⊢
    rw [List.zip_cons_cons, List.map_cons, List.any_cons, ih]
    by_cases e : k = q
    · subst e; simp
    · have e1 : ¬ ((k.map Sum.inl : List Key) = q.map Sum.inl) := fun z => e (inl_inj z)
      have e2 : ¬ q = k := fun z => e z.symm
      simp [e1, e2]
theorem kvz_rep (q : List Int) (v : V) : ∀ (ks : List (List Int)) (xs : List V), ks.length = xs.length → ((kvz ks xs).map fun kv => if kv.1 = (q.map Sum.inl : List Key) then (kv.1, v) else kv) = kvz ks (repV ks xs q v)
  | [], [], _ => by simp [kvz]
  | [], _ :: _, h => by simp at h
  | _ :: _, [], h => by simp at h
  | k :: ks, x :: xs, h => by
    have ih := kvz_rep q v ks xs (by simpa using h)
    unfold kvz at ih ⊢
    rw [repV, List.zip_cons_cons, List.zip_cons_cons, List.map_cons, List.map_cons, List.map_cons, ih]
    by_cases e : k = q
    · subst e; simp
    · have e1 : ¬ ((k.map Sum.inl : List Key) = q.map Sum.inl) := fun z => e (inl_inj z)
      simp [e, e1]
theorem kvz_put {ks : List (List Int)} {xs : List V} (q : List Int) (v : V) (h : ks.length = xs.length) : L2.putK (kvz ks xs) (q.map Sum.inl : List Key) v = kvz (putKs ks q) (putVs ks xs q v) := by
  unfold L2.putK putKs putVs
  rw [kvz_any q ks xs h]
  by_cases e : q ∈ ks
  · rw [if_pos (decide_eq_true e), if_pos e, if_pos e, kvz_rep q v ks xs h]
  · rw [if_neg (by simpa using e), if_neg e, if_neg e]
    unfold kvz
    rw [List.zip_append h, List.map_append]
    rfl
theorem repV_len {α : Type} (q : List Int) (x : α) : ∀ (ks : List (List Int)) (ds : List α), ks.length = ds.length → (repV ks ds q x).length = ks.length
  | [], [], _ => rfl
  | [], _ :: _, h => by simp at h
  | _ :: _, [], h => by simp at h
  | k :: ks, d :: ds, h => by rw [repV, List.length_cons, List.length_cons, repV_len q x ks ds (by simpa using h)]
theorem put_len {α : Type} {ks : List (List Int)} {ds : List α} (q : List Int) (x : α) (h : ks.length = ds.length) : (putKs ks q).length = (putVs ks ds q x).length := by
  unfold putKs putVs
  by_cases e : q ∈ ks
  · rw [if_pos e, if_pos e, repV_len q x ks ds h]
  · rw [if_neg e, if_neg e, List.length_append, List.length_append, h]; rfl
theorem DenL.rep1 {H : Hp} {O : Addr → Prop} {d : D} {v : V} (r : Den G H O d v) (q : List Int) : ∀ {ks : List (List Int)} {ds : List D} {xs : List V}, ks.length = ds.length → DenL G H O ds xs → DenL G H O (repV ks ds q d) (repV ks xs q v)
  | [], [], _, _, h => by cases h; exact .nil
  | [], _ :: _, _, e, _ => by simp at e
  | _ :: _, [], _, e, _ => by simp at e
  | k :: ks, _ :: _, _, e, h => by
    cases h with
    | cons a b =>
      have ih := DenL.rep1 r q (ks := ks) (by simpa using e) b
      rw [repV, repV]
      by_cases c : k = q
      · rw [if_pos c, if_pos c]; exact .cons r ih
      · rw [if_neg c, if_neg c]; exact .cons a ih
theorem DenL.put {H : Hp} {O : Addr → Prop} {d : D} {v : V} {ks : List (List Int)} {ds : List D} {xs : List V} (h : DenL G H O ds xs) (r : Den G H O d v) (q : List Int) (e : ks.length = ds.length) : DenL G H O (putVs ks ds q d) (putVs ks xs q v) := by
  unfold putVs
  by_cases c : q ∈ ks
  · rw [if_pos c, if_pos c]; exact h.rep1 r q e
  · rw [if_neg c, if_neg c]; exact h.append (.cons r .nil)
theorem ds_put {i : Nat} {x : Str} {k e : Expr} {f g : Ev → R DB} {ms : List Nat} {p pos pos' : Pos} (hu : X.A.units + 65 < cLine) (hN : X.N[i]? = some x) (hv : Vis X.env.scope x) (hd : (x == ("__debug__" : Str)) = false) (hcd : (x == ("__classdict__" : Str)) = false) (he : PE X e (rdE G W f)) (hk : PE X k (rdE G W g))
    (hs : swapsWith e (some (.Subscript (.Name x p) k pos')) pos.line X.env = pure false) :
    PS X (.Assign [.Subscript (.Name x p) k pos'] e pos) (rdX G W fun δ => if isOwnK i δ = true then onR (f (view ms δ)) δ fun d => onR (g (view [] (after ms d δ))) (after ms d δ) fun q => putK i q d (after ms d δ) else .bad) := by
  refine PS_imp (ps_dput (by omega) (pe_var hN hv hd hcd) hk he hs) fun D σ H ⟨δ, H0, O0, ⟨A, S⟩, h⟩ => ?_
  dsimp only at h
  split at h
  · rename_i ho
    obtain ⟨ks0, ds0, e0⟩ := isOwnK_of ho
    obtain ⟨g1, -⟩ := S.own i _ e0
    refine rx_E S h fun db v H1 s S1 S1' r h1 => ?_
    refine ⟨_, g1, ?_⟩
    have dv : Den G H1 (Av O0 (after ms db δ) A) db.1 v := r.den S1'.bndA
    refine rx_E S1 h1 fun qb y H3 s3 S3 S3' r3 h3 => ?_
    have ea : after [] qb (after ms db δ) = after ms db δ := rfl
    rw [ea] at S3 S3' r3
    have dy := r3.den S3'.bndA
    unfold putK at h3
    split at h3
    · rename_i ks ds xs e1 e2
      cases e3 : ints? xs with
      | none => simp only [e3] at h3; exact False.elim h3
      | some q =>
        simp only [e3] at h3
        split at h3
        · rename_i hz
          obtain ⟨k1, k2, _, _, us, bx, k4, k5⟩ := S3.own i _ e1
          cases bx with
          | dct _ _ _ hl =>
            rw [e2] at dy
            cases dy with
            | @tup b ys _ _ qd q1 q2 =>
              rw [fz_int e3 hz.2] at q1
              have q1 : _ = some (HO.tup _) := q1
              obtain ⟨q3, q4⟩ := q2.ints e3
              subst q4
              have hlu : ks.length = us.length := by rw [hl]; exact k5.length
              refine ⟨A i, _, rfl, DPut.t (k := q.map Sum.inl) k4 (by rw [q1, q3, List.map_map]; rfl) ?_, ?_⟩
              · unfold kvz
                rw [List.length_map, List.length_zip, ← hlu, Nat.min_self, ← szl_eq]; exact hz.1
              · rw [kvz_put q v hlu]
                exact h3 _ _ ⟨A, S3.writeB e1 (.dct (putKs ks q) _ _ (put_len q _ hl)) (k5.put (dv.same s3) q hl)⟩
        · exact False.elim h3
    · exact False.elim h3
  · exact False.elim h
/-- raise C('..') -/
abbrev veT : List Value := [.type "ValueError", .type "Exception", .type "BaseException", .type "object"]
structure ClOk (G : Gb) (c : Nat) : Prop where
  ex : PySem.W.excIn G.K (G.ca c) veT "ValueError.__new__" = true
  kp : PySem.W.keepIn G.K (.ref (G.ca c)) = true
  sb : PySem.W.subIn G.K (.ref (G.ca c)) (.type "BaseException") = some true
  ty : PySem.W.typeIn G.K (.ref (G.ca c)) = some (.type "type")
theorem ds_raise {c : Nat} {x m : Str} {j : Nat} {p p2 pos pos2 : Pos} (g : Gnd G X) (hc : X.calm = true) (tk : Takes X W) (K : ClOk G c) (hm : G.mg x = some (.ref (G.ca c))) (hg : Gl X x) (hdb : (x == ("__debug__" : Str)) = false) :
    PS X (.Raise (some (.Call (.Name x p) [.Constant (.str m) j p2] [] pos)) none pos2) (rdX G W fun δ => .err c δ) :=
  PS_imp (ps_raise hc tk (pmk_own PySem.F.excBase_ValueError (by rw [g.K]; exact K.ex) (by rw [g.mg]; exact hm) (by rw [g.K]; exact K.kp) (raises_own (by rw [g.K]; exact K.sb) (by rw [g.K]; exact K.ty)) hg hdb)) fun D σ H ⟨δ, H0, O0, S, h⟩ => h σ H S
end
end SS

set_option maxRecDepth 100000
set_option maxHeartbeats 4000000
/-! SSL: try .. except WordError as e: which class -/
namespace SS
open PySem PySem.Spec PyProof.Rows L2
/-- what the written part tells of the classes, one by one: c's number in the list is its place -/
structure CsOk (G : Gb) (nc : Nat) (WE : Addr) : Prop where
  cl : ∀ c, c < nc → ClOk G c
  ex : ∀ c, c < nc → ExcC G.K (G.ca c)
  ki : ∀ c d, c < nc → d < nc → PySem.W.kitOne G.K (.ref (G.ca c)) (.ref (G.ca d)) = some (decide (c = d))
  we : ∀ c, c < nc → PySem.W.exmOne G.K (.ref (G.ca c)) (.ref WE) = some true
section
variable {G : Gb} {W : WX} {X : Cx} {nc : Nat} {WE : Addr}
/-- a list of the answers of isinstance(e, ..) -/
def ansV (c : Nat) (cs : List Nat) : List V := cs.map fun d => V.bl (decide (c = d))
/-- in the suite: e holds the exception, the names of env their lists -/
def SuE (G : Gb) (i : Nat) (a : Addr) (c : Nat) (env : List (Nat × List Nat)) (σ : Sg) (H : Hp) : Prop :=
  σ[i]? = some (some (.ref a)) ∧ ∀ p ∈ env, p.1 ≠ i ∧ ∃ q, σ[p.1]? = some (some (.ref q)) ∧ H q = some (.lst (ansV c p.2))
def rdLB (G : Gb) (i : Nat) (a : Addr) (c : Nat) (env : List (Nat × List Nat)) (cs : List Nat) : TE := fun σ H Q => SuE G i a c env σ H ∧ ∀ p H', Same G H H' → H' p = some (.lst (ansV c cs)) → Q (.ref p) H'
def rdIs (G : Gb) (i : Nat) (a : Addr) (c d : Nat) : TE := fun σ H Q => σ[i]? = some (some (.ref a)) ∧ Q (.bl (decide (c = d))) H
abbrev suX (X : Cx) (a : Addr) (oe : Obj) (pn : List (Addr × Obj)) : Cx := X.suite a ((a, oe) :: pn)
variable {a : Addr} {oe : Obj} {pn : List (Addr × Obj)}
theorem su_is {i c d : Nat} {x C : Str} {p1 p2 p3 pos : Pos} (g : Gnd G X) (K : CsOk G nc WE) (hc : c < nc) (hd : d < nc) (hz : Zc (.ref (G.ca c)) none oe) (hf : ∃ vs, oe.data = .fields vs)
    (hN : X.N[i]? = some x) (hv : Vis X.env.scope x) (hx1 : (x == ("__debug__" : Str)) = false) (hx2 : (x == ("__classdict__" : Str)) = false)
    (hg : Gl X "isinstance") (hm : X.mg "isinstance" = none) (hgC : Gl X C) (hmC : X.mg C = some (.ref (G.ca d))) (hC1 : (C == ("__debug__" : Str)) = false) :
    PE (suX X a oe pn) (.Call (.Name "isinstance" p1) [.Name x p2, .Name C p3] [] pos) (rdIs G i a c d) := by
  have hz' : Zc (.ref (G.ca c)) none oe := hz
  have E : ExcC X.K (G.ca c) := by rw [g.K]; exact K.ex c hc
  refine PE_imp (pe_callB (X := suX X a oe pn) (call_isE E hz' hf) hg hm (by decide +kernel) (pa_cons (pe_var (X := suX X a oe pn) (i := i) hN hv hx1 hx2) (pa_cons (pe_glob (X := suX X a oe pn) (v := .ref (G.ca d)) hgC hmC rfl hC1) pa_nil))) fun σ H Q ⟨h1, h2⟩ => ?_
  refine ⟨_, h1, .ref (G.ca d), .ref (G.ca d), decide (c = d), rfl, fun u r => r, ?_, h2⟩
  have q := K.ki c d hc hd
  rw [← g.K] at q
  exact q
/-- the items of a display -/
inductive IsL (X : Cx) (i : Nat) (x : Str) (nc : Nat) (ca : Nat → Addr) : List Expr → List Nat → Prop
  | nil : IsL X i x nc ca [] []
  | cons {C : Str} {p1 p2 p3 pos : Pos} {d : Nat} {es : List Expr} {ds : List Nat} : d < nc → Gl X C → X.mg C = some (.ref (ca d)) → (C == ("__debug__" : Str)) = false → IsL X i x nc ca es ds →
      IsL X i x nc ca (.Call (.Name "isinstance" p1) [.Name x p2, .Name C p3] [] pos :: es) (d :: ds)
theorem su_pa {i c : Nat} {x : Str} (g : Gnd G X) (K : CsOk G nc WE) (hc : c < nc) (hz : Zc (.ref (G.ca c)) none oe) (hf : ∃ vs, oe.data = .fields vs)
    (hN : X.N[i]? = some x) (hv : Vis X.env.scope x) (hx1 : (x == ("__debug__" : Str)) = false) (hx2 : (x == ("__classdict__" : Str)) = false)
    (hg : Gl X "isinstance") (hm : X.mg "isinstance" = none) {es : List Expr} {ds : List Nat} (h : IsL X i x nc G.ca es ds) :
    PA (suX X a oe pn) es (fun σ H Q => σ[i]? = some (some (.ref a)) ∧ Q (ansV c ds) H) := by
  induction h with
  | nil => exact PA_imp pa_nil fun σ H Q h => h.2
  | cons h1 h2 h3 h4 h5 ih => exact PA_imp (pa_cons (su_is g K hc h1 hz hf hN hv hx1 hx2 hg hm h2 h3 h4) ih) fun σ H Q h => ⟨h.1, h.1, h.2⟩
theorem IsL.len {i : Nat} {x : Str} {es : List Expr} {ds : List Nat} (h : IsL X i x nc G.ca es ds) : es.length = ds.length := by
  induction h with
  | nil => rfl
  | cons _ _ _ _ _ ih => rw [List.length_cons, List.length_cons, ih]
theorem su_disp {i c : Nat} {x : Str} {env : List (Nat × List Nat)} {pos : Pos} (g : Gnd G X) (K : CsOk G nc WE) (hc : c < nc) (hz : Zc (.ref (G.ca c)) none oe) (hf : ∃ vs, oe.data = .fields vs)
    (hN : X.N[i]? = some x) (hv : Vis X.env.scope x) (hx1 : (x == ("__debug__" : Str)) = false) (hx2 : (x == ("__classdict__" : Str)) = false)
    (hg : Gl X "isinstance") (hm : X.mg "isinstance" = none) {es : List Expr} {ds : List Nat} (h : IsL X i x nc G.ca es ds) (hl : ds.length ≤ 1000) :
    PE (suX X a oe pn) (.List es pos) (rdLB G i a c env ds) :=
  PE_imp (pe_lst (su_pa g K hc hz hf hN hv hx1 hx2 hg hm h)) fun σ H Q ⟨h1, h2⟩ => ⟨h1.1, by unfold ansV; rw [List.length_map, sizeLine_eq]; omega, fun p hp => h2 p _ (same_new hp) upd_same⟩
theorem su_name {i c k : Nat} {f : Str} {env : List (Nat × List Nat)} {cs : List Nat} {p : Pos} (hN : X.N[k]? = some f) (hv : Vis X.env.scope f) (hx1 : (f == ("__debug__" : Str)) = false) (hx2 : (f == ("__classdict__" : Str)) = false) (hk : (k, cs) ∈ env) :
    PE (suX X a oe pn) (.Name f p) (rdLB G i a c env cs) :=
  PE_imp (pe_var (X := suX X a oe pn) (i := k) hN hv hx1 hx2) fun σ H Q ⟨h1, h2⟩ => by
    obtain ⟨_, q, h3, h4⟩ := h1.2 _ hk
    exact ⟨_, h3, h2 q H (Same.refl _) h4⟩
theorem SuE.same {i c : Nat} {env : List (Nat × List Nat)} {σ : Sg} {H H' : Hp} (s : Same G H H') (h : SuE G i a c env σ H) : SuE G i a c env σ H' := ⟨h.1, fun p hp => let ⟨n, q, h3, h4⟩ := h.2 p hp; ⟨n, q, h3, s.g h4⟩⟩
theorem su_cat {i c : Nat} {env : List (Nat × List Nat)} {e1 e2 : Expr} {cs ds : List Nat} {pos : Pos} (h1 : PE (suX X a oe pn) e1 (rdLB G i a c env cs)) (h2 : PE (suX X a oe pn) e2 (rdLB G i a c env ds)) (hl : cs.length + ds.length ≤ 1000) :
    PE (suX X a oe pn) (.BinOp e1 .Add e2 pos) (rdLB G i a c env (cs ++ ds)) := by
  refine PE_imp (pe_op op_cat h1 h2) fun σ H Q ⟨g1, g2⟩ => ⟨g1, fun p H1 s1 e1 => ⟨g1.same s1, fun q H2 s2 e2 => ⟨p, q, _, _, rfl, rfl, s2.g e1, e2, ?_, fun z hz => ?_⟩⟩⟩
  · unfold ansV
    rw [List.length_map, List.length_map, sizeLine_eq]
    omega
  · refine g2 z _ (s1.trans (s2.trans (same_new hz))) ?_
    rw [upd_same]
    unfold ansV
    rw [List.map_append]
/-- the end: .index(True) -/
def rdIx (G : Gb) (i : Nat) (a : Addr) (c : Nat) (env : List (Nat × List Nat)) (cs : List Nat) : TS := fun D σ H => SuE G i a c env σ H ∧ ∃ j, cs.idxOf? c = some j ∧ ∀ H', Same G H H' → D.rt (.int (j : Nat)) H'
theorem idx_ans {c : Nat} : ∀ {cs : List Nat} {j : Nat}, cs.idxOf? c = some j → (ansV c cs)[j]? = some (.bl true) ∧ ∀ m : Nat, m < j → ∀ z, (ansV c cs)[m]? = some z → eqV z (.bl true) = false
  | [], _, h => by simp at h
  | d :: r, j, h => by
    rw [List.idxOf?_cons] at h
    by_cases e : d = c
    · subst e
      simp at h
      subst h
      exact ⟨by simp [ansV], fun m hm => absurd hm (Nat.not_lt_zero _)⟩
    · have e' : (d == c) = false := by simpa using e
      rw [e'] at h
      simp only [Bool.false_eq_true, if_false, Option.map_eq_some_iff] at h
      obtain ⟨k, h1, rfl⟩ := h
      obtain ⟨g1, g2⟩ := idx_ans h1
      refine ⟨by simpa [ansV] using g1, fun m hm z hz => ?_⟩
      cases m with
      | zero =>
        have e2 : ¬ c = d := fun q => e q.symm
        simp [ansV, e2] at hz
        subst hz
        rfl
      | succ m => exact g2 m (by omega) z (by simpa [ansV] using hz)
theorem su_ret {i c : Nat} {env : List (Nat × List Nat)} {e : Expr} {cs : List Nat} {apos cpos p3 pos : Pos} {j3 : Nat} (he : PE (suX X a oe pn) e (rdLB G i a c env cs)) (hb : attributeBase e "index" X.env (eval e X.env) = eval e X.env)
    (hline : (apos.endLine == cpos.line) = true) : PS (suX X a oe pn) (.Return (some (.Call (.Attribute e "index" apos) [.Constant (.bool true) j3 p3] [] cpos)) pos) (rdIx G i a c env cs) := by
  refine PS_imp (ps_ret (pe_bm PySem.F.plainAttrs_list PySem.F.slot_list_index PySem.F.type_list_index mt_index he (pa_cons pe_bl pa_nil) hb rfl hline)) fun D σ H ⟨g1, j, g2, g3⟩ => ?_
  refine ⟨g1, fun p H1 s1 e1 => ⟨.inl ⟨rfl, _, .inl (.inl e1)⟩, ?_⟩⟩
  obtain ⟨k1, k2⟩ := idx_ans g2
  refine ⟨p, ansV c cs, .bl true, j, .bl true, rfl, rfl, .inl (.inl e1), rfl, ?_, k1, rfl, fun m z hm hz => k2 m hm z hz, ?_⟩
  · unfold ansV
    rw [List.all_map, List.all_eq_true]
    intro x _
    rfl
  · exact g3 H1 s1
/-- a name is set -/
theorem su_set {i c k : Nat} {f : Str} {env : List (Nat × List Nat)} {e : Expr} {cs ds : List Nat} {rest : List Stmt} {pos pos' : Pos} (hN : X.N.Nodup) (hi : X.N[k]? = some f) (hx : Loc X.env.scope f) (hf : X.fn f = true ∨ X.env.scope.names.lookup f = some .local) (hki : k ≠ i)
    (hk : k < X.N.length) (he : PE (suX X a oe pn) e (rdLB G i a c env cs)) (hs : swapsWith e (some (.Name f pos')) pos.line X.env = pure false) (hr : PSs (suX X a oe pn) rest (fun D σ H => σ.length = X.N.length ∧ rdIx G i a c ((k, cs) :: env.filter fun p => p.1 != k) ds D σ H)) :
    PSs (suX X a oe pn) (.Assign [.Name f pos'] e pos :: rest) (fun D σ H => σ.length = X.N.length ∧ rdIx G i a c env ds D σ H) := by
  refine PSs_imp (pss_cons (ps_set (X := suX X a oe pn) hN hi hx he hs hf) hr) fun D σ H ⟨hl, g1, j, g2, g3⟩ => ⟨g1, fun p H1 s1 e1 => ?_⟩
  refine ⟨(List.length_set ..).trans hl, ⟨?_, fun q hq => ?_⟩, j, g2, fun H2 s2 => g3 H2 (s1.trans s2)⟩
  · rw [List.getElem?_set_ne hki]
    exact g1.1
  · rcases List.mem_cons.mp hq with rfl | hq
    · exact ⟨hki, p, List.getElem?_set_self (by rw [hl]; exact hk), e1⟩
    · obtain ⟨hq1, hq2⟩ := List.mem_filter.mp hq
      have hne : q.1 ≠ k := by simpa using hq2
      obtain ⟨n, q', h3, h4⟩ := g1.2 q hq1
      exact ⟨n, q', by rw [List.getElem?_set_ne (Ne.symm hne)]; exact h3, s1.g h4⟩
theorem ds_try {i : Nat} {x n : Str} {cs : List Nat} {body suite : List Stmt} {b₀ : Stmt} {f : Sl → Out} {np pos pos' : Pos} (g : Gnd G X) (K : CsOk G nc WE) (hst : X.stack = X.env :: X.outer) (hf : X.env.frame = some X.env.locals) (hN : X.N.Nodup) (hi : X.N[i]? = some n) (hln : X.env.kindOf n = some .local)
    (hc : Names X x (.ref WE)) (tk : Takes X W) (hcs : ∀ c ∈ cs, c < nc)
    (hb : ∀ (W' : WX) (pn : List (Addr × Obj)) (xe : Value → Shared → Prop), Takes (X.tr pn xe) W' → PassesOwn (model X.prog X.w) X.A X.env xe → PSs (X.tr pn xe) body (rdX G W' f))
    (hsu : ∀ (a : Addr) (oe : Obj) (pn : List (Addr × Obj)) (c : Nat), c < nc → Zc (.ref (G.ca c)) none oe → (∃ vs, oe.data = .fields vs) → PSs (suX X a oe pn) (b₀ :: suite) (fun D σ H => σ.length = X.N.length ∧ rdIx G i a c [] cs D σ H)) :
    PS X (.Try body [.ExceptHandler (some (.Name x np)) (some n) (b₀ :: suite) pos'] [] [] pos) (rdX G W fun δ => tryO i cs (f δ)) := by
  have suite' : ∀ (a : Addr) (oe : Obj) (cls : Value) (d : Option Addr) (pn : List (Addr × Obj)), Zc cls d oe → (∃ vs, oe.data = .fields vs) →
      PSs (suX X a oe pn) (b₀ :: suite) (fun D σ H => d = none ∧ ∃ c, c < nc ∧ cls = .ref (G.ca c) ∧ rdIx G i a c [] cs D σ H) := by
    intro a oe cls d pn hz hv
    refine ⟨fun pins s σ H D I ⟨e1, c, h1, e2, q⟩ => ?_⟩
    subst e1
    subst e2
    exact (hsu a oe pn c h1 hz hv).run pins s σ H D I ⟨I.len, q⟩
  refine PS_imp (ps_try_as (i := i) (ts := fun a cls d => fun D σ H => d = none ∧ ∃ c, c < nc ∧ cls = .ref (G.ca c) ∧ rdIx G i a c [] cs D σ H) (tb := fun W' => rdX G W' f) hst hf hN hi hln hc tk hb suite') fun D σ H ⟨δ, H0, O0, S, h⟩ => ⟨δ, H0, O0, S, ?_⟩
  dsimp only at h
  cases e : f δ with
  | nx δ' => rw [e] at h; exact h
  | ret d => rw [e] at h; exact h
  | bad => rw [e] at h; exact h
  | err c δ' =>
    rw [e] at h
    simp only [tryO] at h
    intro σ' H' ⟨A, S'⟩
    cases ej : cs.idxOf? c with
    | none => rw [ej] at h; exact False.elim h
    | some j =>
      rw [ej] at h
      simp only at h
      split at h
      · rename_i hlt
        have hmem : c ∈ cs := by
          have := List.isSome_idxOf? (l := cs) (a := c)
          rw [ej] at this
          simpa using this
        have hcn := hcs c hmem
        have q := K.we c hcn
        rw [← g.K] at q
        refine ⟨true, q, fun _ a ha => ⟨rfl, c, hcn, rfl, ⟨List.getElem?_set_self (by rw [← S'.len]; exact hlt), fun p hp => absurd hp (by simp)⟩, j, ej, fun H2 s2 => ?_⟩, fun z => Bool.noConfusion z⟩
        exact h _ _ (S'.same.trans s2) (Res.of (.int _))
      · exact False.elim h
end
end SS

set_option maxRecDepth 100000
set_option maxHeartbeats 4000000
/-! SSM: from texts to the small syntax -/
namespace SS
open PySem PySem.Spec PyProof.Rows L2
inductive GV where
  | fn (i : Nat) | dat (d : D) | cls (c : Nat) | blt
structure CC where
  gt : List (Str × GV)
  N : List Str
  sc : Scope
  fnb : Str → Bool
  nc : Nat
  tr : Bool
  lam : Bool
def sDebug : Str := "__debug__"
def sClassDict : Str := "__classdict__"
/-- the slot of a name that stands in the frame or in a cell -/
def CC.slot (cc : CC) (x : Str) : Option Nat :=
  match cc.sc.names.lookup x with
  | some .local | some .cell | some .free => if x == sDebug || x == sClassDict then none else cc.N.idxOf? x
  | _ => none
/-- the slot of a name that may be set here -/
def CC.tslot (cc : CC) (x : Str) : Option Nat :=
  match cc.sc.names.lookup x with
  | some .local => cc.N.idxOf? x
  | some .cell => if cc.fnb x = true then cc.N.idxOf? x else none
  | _ => none
def CC.glob (cc : CC) (x : Str) : Option GV :=
  match cc.sc.names.lookup x with
  | some .globalImplicit => if x == sDebug then none else cc.gt.lookup x
  | _ => none
def CC.isBlt (cc : CC) (x : Str) : Bool := match cc.glob x with | some .blt => true | _ => false
def isStar : Expr → Bool | .Starred _ _ => true | _ => false
def isSlice : Expr → Bool | .Slice _ _ _ _ => true | _ => false
def isSet : Expr → Bool | .Set _ _ _ => true | _ => false
def isCompE : Expr → Bool | .ListComp _ _ _ _ => true | .SetComp _ _ _ _ => true | .DictComp _ _ _ _ _ => true | _ => false
def bopOf : Operator → Option Bop
  | .Add => some .add | .Sub => some .sub | .Mult => some .mul | .FloorDiv => some .fdiv | .Mod => some .mod | .Pow => some .pow | .LShift => some .shl | _ => none
def copOf : CmpOp → Option Cop
  | .Eq => some .eq | .NotEq => some .ne | .Lt => some .lt | .LtE => some .le | .Gt => some .gt | .GtE => some .ge | .In => some .isin | .NotIn => some .notin | _ => none
def bltS : Prim → Option (Str × String)
  | .len => some ("len", "len") | .min => some ("min", "min") | .max => some ("max", "max") | .sum => some ("sum", "sum") | .all => some ("all", "all") | .any => some ("any", "any") | .sorted => some ("sorted", "sorted") | _ => none
def pLen : Str := "len"
def pMin : Str := "min"
def pMax : Str := "max"
def pSum : Str := "sum"
def pAll : Str := "all"
def pAny : Str := "any"
def pSorted : Str := "sorted"
def pTuple : Str := "tuple"
def pList : Str := "list"
def pInt : Str := "int"
def pDict : Str := "dict"
def pBool : Str := "bool"
def pStr : Str := "str"
def pIsI : Str := "isinstance"
def pRange : Str := "range"
def pSet : Str := "set"
def pZip : Str := "zip"
def pEnum : Str := "enumerate"
def primOf (x : Str) : Option Prim :=
  if x == pLen then some .len else if x == pMin then some .min else if x == pMax then some .max else if x == pSum then some .sum else if x == pAll then some .all else if x == pAny then some .any
  else if x == pSorted then some .sorted else if x == pTuple then some .tuple else if x == pList then some .list else if x == pInt then some .int else if x == pDict then some .dict else none
def tyOf (x : Str) : Option Ty :=
  if x == pInt then some .int else if x == pBool then some .bool else if x == pStr then some .str else if x == pTuple then some .tuple else if x == pList then some .list else none
def blkB (N : List Str) (sc scope : Scope) (own : List (Str × Nat)) : Bool :=
  decide (scope.kind = .function) && scope.names.all (fun y => scope.names.lookup y.1 == some y.2) && own.all (fun p => N[p.2]? == some p.1)
    && scope.names.all (fun y => !(y.2 == .free) || sc.names.lookup y.1 == some .cell || sc.names.lookup y.1 == some .free)
    && scope.names.all (fun y => !(y.2 == .local || y.2 == .cell) || (own.map (·.1)).contains y.1 || !N.contains y.1)
def ownOf (N : List Str) (scope : Scope) : List (Str × Nat) :=
  scope.names.filterMap fun y => if y.2 == .local || y.2 == .cell then (N.idxOf? y.1).map fun i => (y.1, i) else none
def CC.blk (cc : CC) (scope : Scope) : CC := { cc with sc := relS scope cc.sc, fnb := fun x => scope.names.lookup x == some .cell, lam := false }
/-- targets -/
def compTg : Nat → CC → Expr → Option Tg
  | 0, _, _ => none
  | n + 1, cc, .Name x _ => (cc.tslot x).map .nm
  | n + 1, cc, .Tuple [a, b] _ _ => if isStar a || isStar b then none else (compTg n cc a).bind fun x => (compTg n cc b).bind fun y => some (.tp2 x y)
  | n + 1, cc, .Tuple [a, b, c] _ _ => if isStar a || isStar b || isStar c then none else (compTg n cc a).bind fun x => (compTg n cc b).bind fun y => (compTg n cc c).bind fun z => some (.tp3 x y z)
  | _, _, _ => none
def compK : Const → Option D
  | .none => some .non | .bool b => some (.bl b) | .int i => some (.int i) | .str s => some (.str s) | _ => none
def compN (cc : CC) (x : Str) : Option E :=
  match cc.slot x with
  | some i => some (.var i)
  | none => match cc.glob x with
    | some (.fn i) => some (.cst (.fn i))
    | some (.dat d) => some (.cst d)
    | _ => none
def pKey : Str := "key"
def lamScB (scope : Scope) : Bool := decide (scope.kind = .function) && !scope.isCoroutine && !scope.isGenerator && scope.names.all (fun y => !(y.2 == .cell) && !(y.2 == .free)) && scope.names.lookup pOne == some .local && scope.names.lookup pLen == some .globalImplicit
def CC.gBlt (cc : CC) (x : Str) : Bool := match cc.gt.lookup x with | some .blt => true | _ => false
def subB (xs ys : List Nat) : Bool := xs.all fun i => ys.contains i
mutual
def compE : Nat → CC → Expr → Option E
  | 0, _, _ => none
  | n + 1, cc, e => match e with
    | .Constant k _ _ => (compK k).map .cst
    | .Name x _ => compN cc x
    | .Tuple es _ _ => if es.length ≤ 1000 then (compEs n cc es).map .tup else none
    | .List es _ => if es.length ≤ 1000 then (compEs n cc es).map .lst else none
    | .BinOp a o b _ => (bopOf o).bind fun o => (compE n cc a).bind fun a => (compE n cc b).bind fun b => some (.bin o a b)
    | .UnaryOp .USub a _ => (compE n cc a).map .neg
    | .UnaryOp .Not a _ => (compE n cc a).map .not
    | .BoolOp .And vs _ => compAnd n cc vs
    | .BoolOp .Or vs _ => compOr n cc vs
    | .IfExp c a b _ => (compE n cc c).bind fun c => (compE n cc a).bind fun a => (compE n cc b).bind fun b => some (.ifx c a b)
    | .Compare a [.Is] [.Constant .none _ _] _ => (compE n cc a).map (.isc .non true)
    | .Compare a [.IsNot] [.Constant .none _ _] _ => (compE n cc a).map (.isc .non false)
    | .Compare a [.Is] [.Constant (.bool k) _ _] _ => (compE n cc a).map (.isc (.bl k) true)
    | .Compare a [.IsNot] [.Constant (.bool k) _ _] _ => (compE n cc a).map (.isc (.bl k) false)
    | .Compare a [o] [b] _ => if isSet b then none else (copOf o).bind fun o => (compE n cc a).bind fun a => (compE n cc b).bind fun b => some (.cmp o a b)
    | .Compare a [o, p] [b, c] _ => if isSet c then none else (copOf o).bind fun o => (copOf p).bind fun p => (compE n cc a).bind fun a => (compE n cc b).bind fun b => (compE n cc c).bind fun c => some (.chain o p a b c)
    | .Subscript a (.Slice none none (some (.UnaryOp .USub (.Constant (.int 1) _ _) _)) _) _ => (compE n cc a).map .rev
    | .Subscript a (.Slice (some l) none none _) _ => (compE n cc a).bind fun a => (compE n cc l).bind fun l => some (.slA a l)
    | .Subscript a (.Slice none (some h) none _) _ => (compE n cc a).bind fun a => (compE n cc h).bind fun h => some (.slB a h)
    | .Subscript a (.Slice (some l) (some h) none _) _ => (compE n cc a).bind fun a => (compE n cc l).bind fun l => (compE n cc h).bind fun h => some (.slC a l h)
    | .Subscript a b _ => if isSlice b then none else (compE n cc a).bind fun a => (compE n cc b).bind fun b => some (.ix a b)
    | .Call (.Name x _) args [] _ => match cc.glob x with
      | some (.fn i) => (compEs n cc args).map (.call i)
      | some .blt =>
        if x == pIsI then (match args with
          | [e, .Name t _] => if isStar e || !cc.isBlt t then none else (tyOf t).bind fun t => (compE n cc e).map fun e => .prim (.isi t) (.cons e .nil)
          | _ => none)
        else match compRg n cc args with
          | some s => if x == pTuple then some (.rng true s) else if x == pList then some (.rng false s) else none
          | none => match (if x == pSorted then compSt n cc args else none) with
            | some e => some (.srs e)
            | none => (primOf x).bind fun p => if args.isEmpty then none else (compEs n cc args).map (.prim p)
      | _ => none
    | .Call (.Subscript a b p) args [] _ => if args.isEmpty || isSlice b then none else (compE n cc (.Subscript a b p)).bind fun f => (compEs n cc args).map (.callv f)
    | .ListComp elt [⟨tg, iter, [], 0⟩] scope _ =>
      let own := ownOf cc.N scope
      if blkB cc.N cc.sc scope own && !isSet iter then
        (compTg n (cc.blk scope) tg).bind fun tg' => (compSr n cc tg iter).bind fun src => (compE n (cc.blk scope) elt).bind fun elt =>
          if subB (tgSlots tg') (own.map (·.2)) then some (.comp elt tg' src (own.map (·.2))) else none
      else none
    | .ListComp elt [⟨tg, iter, [test], 0⟩] scope _ =>
      let own := ownOf cc.N scope
      if blkB cc.N cc.sc scope own && !isSet iter then
        (compTg n (cc.blk scope) tg).bind fun tg' => (compSr n cc tg iter).bind fun src => (compE n (cc.blk scope) test).bind fun test => (compE n (cc.blk scope) elt).bind fun elt =>
          if subB (tgSlots tg') (own.map (·.2)) then some (.compf elt tg' src test (own.map (·.2))) else none
      else none
    | .ListComp elt [⟨tg, iter, [], 0⟩, ⟨tg1, iter1, [], 0⟩] scope _ =>
      let own := ownOf cc.N scope
      if blkB cc.N cc.sc scope own && !isSet iter && !isSet iter1 then
        (compTg n (cc.blk scope) tg).bind fun tg' => (compSr n cc tg iter).bind fun src => (compTg n (cc.blk scope) tg1).bind fun tg1' => (compSr n (cc.blk scope) tg1 iter1).bind fun src1 => (compE n (cc.blk scope) elt).bind fun elt =>
          if subB (tgSlots tg') (own.map (·.2)) && subB (tgSlots tg1') (own.map (·.2)) then some (.comp2 elt tg' src tg1' src1 (own.map (·.2)) (tgSlots tg1')) else none
      else none
    | .Dict [] [] _ => some .dnew
    | .Call (.Name x _) [a] [⟨some kk, v, _⟩] _ => if isStar a || !cc.isBlt x then none else compKw n cc x a kk v
    | _ => none
def compSt : Nat → CC → List Expr → Option E
  | 0, _, _ => none
  | n + 1, cc, [.Call (.Name r _) [a] [] _] => if r == pSet && cc.isBlt r && !isStar a then compE n cc a else none
  | _, _, _ => none
def compKw : Nat → CC → Str → Expr → Str → Expr → Option E
  | 0, _, _, _, _, _ => none
  | n + 1, cc, x, a, kk, .Lambda ⟨[], [⟨y, _, _⟩], none, [], [], none, []⟩ (.BinOp (.Constant (.int 0) _ _) .Sub (.Call (.Name l _) [.Name y2 _] [] _) _) scope _ =>
    if x == pSorted && kk == pKey && y == pOne && y2 == pOne && l == pLen && cc.gBlt pLen && cc.lam && lamScB scope then (compE n cc a).map .srl else none
  | _, _, _, _, _, _ => none
def compRg : Nat → CC → List Expr → Option Sr
  | 0, _, _ => none
  | n + 1, cc, [.Call (.Name r _) [a] [] _] => if r == pRange && cc.isBlt r && !isStar a then (compE n cc a).map .rg1 else none
  | n + 1, cc, [.Call (.Name r _) [a, b] [] _] => if r == pRange && cc.isBlt r && !isStar a && !isStar b then (compE n cc a).bind fun a => (compE n cc b).map (.rg2 a) else none
  | _, _, _ => none
def compEs : Nat → CC → List Expr → Option Es
  | 0, _, _ => none
  | _ + 1, _, [] => some .nil
  | n + 1, cc, e :: es => if isStar e then none else (compE n cc e).bind fun e => (compEs n cc es).bind fun es => some (.cons e es)
def compAnd : Nat → CC → List Expr → Option E
  | 0, _, _ => none
  | n + 1, cc, [a] => compE n cc a
  | n + 1, cc, a :: b :: r => (compE n cc a).bind fun a => (compAnd n cc (b :: r)).bind fun r => some (.and a r)
  | _, _, _ => none
def compOr : Nat → CC → List Expr → Option E
  | 0, _, _ => none
  | n + 1, cc, [a] => compE n cc a
  | n + 1, cc, a :: b :: r => (compE n cc a).bind fun a => (compOr n cc (b :: r)).bind fun r => some (.or a r)
  | _, _, _ => none
def compSr : Nat → CC → Expr → Expr → Option Sr
  | 0, _, _, _ => none
  | n + 1, cc, tg, e => match e with
    | .Call (.Name x _) [a] [] _ =>
      if x == pRange && cc.isBlt x then (if isStar a then none else (compE n cc a).map .rg1)
      else if x == pEnum && cc.isBlt x then (match tg with | .Tuple _ _ _ => if isStar a then none else (compE n cc a).map .enum | _ => none)
      else (compE n cc e).map .seq
    | .Call (.Name x _) [a, b] [] _ =>
      if x == pRange && cc.isBlt x then (if isStar a || isStar b then none else (compE n cc a).bind fun a => (compE n cc b).map (.rg2 a))
      else if x == pZip && cc.isBlt x then (match tg with | .Tuple _ _ _ => if isStar a || isStar b then none else (compE n cc a).bind fun a => (compE n cc b).map (.zip a) | _ => none)
      else (compE n cc e).map .seq
    | _ => (compE n cc e).map .seq
end
end SS

set_option maxRecDepth 100000
set_option maxHeartbeats 4000000
/-! SSN: the small syntax tells what the text does: expressions -/
namespace SS
open PySem PySem.Spec PyProof.Rows L2
def GvOk (G : Gb) (x : Str) : GV → Prop
  | .fn i => G.mg x = some (.ref (G.fa i))
  | .dat d => ∃ v u, G.mg x = some u ∧ RelV v u ∧ ∀ H O, Den G H O d v
  | .cls c => G.mg x = some (.ref (G.ca c))
  | .blt => G.mg x = none
structure XOk (G : Gb) (C : Orc) (k : Nat) (cc : CC) (W : WX) (X : Cx) : Prop where
  g : Gnd G X
  N : X.N = cc.N
  nd : X.N.Nodup
  sc : X.env.scope = cc.sc
  fn : X.fn = cc.fnb
  calm : X.calm = true
  room : Room k X.A
  tk : Takes X W
  po : PassesOwn (model X.prog X.w) X.A X.env X.xe
  gt : ∀ x v, cc.gt.lookup x = some v → GvOk G x v
  F : ∀ i, FOk G C k i
  lam : cc.lam = true → ∃ c P, LamAt G X c P
theorem idx_get {α : Type} [BEq α] [LawfulBEq α] {x : α} : ∀ {l : List α} {i : Nat}, l.idxOf? x = some i → l[i]? = some x
  | [], _, h => by simp at h
  | y :: r, i, h => by
    rw [List.idxOf?_cons] at h
    by_cases e : (y == x) = true
    · rw [if_pos e] at h
      simp only [Option.some.injEq] at h
      subst h
      have : y = x := by simpa using e
      subst this
      rfl
    · rw [if_neg e] at h
      simp only [Option.map_eq_some_iff] at h
      obtain ⟨j, h1, rfl⟩ := h
      simpa using idx_get h1
section
variable {G : Gb} {C : Orc} {k : Nat} {cc : CC} {W : WX} {X : Cx}
theorem XOk.K (h : XOk G C k cc W X) : X.K = G.K := h.g.K
theorem XOk.hu (h : XOk G C k cc W X) : X.A.units + 65 < cLine := by have := h.room.un; omega
theorem XOk.mg (h : XOk G C k cc W X) : X.mg = G.mg := h.g.mg
theorem XOk.slot (h : XOk G C k cc W X) {x : Str} {i : Nat} (e : cc.slot x = some i) : X.N[i]? = some x ∧ Vis X.env.scope x ∧ (x == ("__debug__" : Str)) = false ∧ (x == ("__classdict__" : Str)) = false := by
  unfold CC.slot at e
  rw [h.N, h.sc]
  have go : (if x == sDebug || x == sClassDict then none else cc.N.idxOf? x) = some i → cc.N[i]? = some x ∧ (x == ("__debug__" : Str)) = false ∧ (x == ("__classdict__" : Str)) = false := fun e => by
    split at e
    · cases e
    · rename_i n
      simp only [Bool.or_eq_true, not_or] at n
      exact ⟨idx_get e, (Bool.not_eq_true _).mp n.1, (Bool.not_eq_true _).mp n.2⟩
  split at e
  · rename_i q
    obtain ⟨h1, h2⟩ := go e
    exact ⟨h1, .inl q, h2⟩
  · rename_i q
    obtain ⟨h1, h2⟩ := go e
    exact ⟨h1, .inr (.inl q), h2⟩
  · rename_i q
    obtain ⟨h1, h2⟩ := go e
    exact ⟨h1, .inr (.inr q), h2⟩
  · cases e
theorem XOk.tslot (h : XOk G C k cc W X) {x : Str} {i : Nat} (e : cc.tslot x = some i) : X.N[i]? = some x ∧ Loc X.env.scope x ∧ (X.fn x = true ∨ X.env.scope.names.lookup x = some .local) := by
  unfold CC.tslot at e
  rw [h.N, h.sc, h.fn]
  split at e
  · rename_i q
    exact ⟨idx_get e, .inl q, .inr q⟩
  · rename_i q
    split at e
    · rename_i f
      exact ⟨idx_get e, .inr q, .inl f⟩
    · cases e
  · cases e
theorem XOk.glob (h : XOk G C k cc W X) {x : Str} {v : GV} (e : cc.glob x = some v) : Gl X x ∧ (x == ("__debug__" : Str)) = false ∧ GvOk G x v := by
  unfold CC.glob at e
  split at e
  · rename_i q
    split at e
    · cases e
    · rename_i n
      refine ⟨?_, (Bool.not_eq_true _).mp n, h.gt _ _ e⟩
      unfold Gl Env.kindOf
      rw [h.sc]
      exact q
  · cases e
theorem XOk.blt (h : XOk G C k cc W X) {x : Str} (e : cc.isBlt x = true) : Gl X x ∧ (x == ("__debug__" : Str)) = false ∧ X.mg x = none := by
  unfold CC.isBlt at e
  split at e
  · rename_i q
    obtain ⟨h1, h2, h3⟩ := h.glob q
    exact ⟨h1, h2, by rw [h.mg]; exact h3⟩
  · cases e
theorem star_of {e : Expr} {es : List Expr} {env : PySem.Env} (h : isStar e = false) : starEach (e :: es) env = (false, eval e env) :: starEach es env := by
  cases e <;> first | rfl | simp [isStar] at h
theorem asgE_of {e : Expr} {es : List Expr} {env : PySem.Env} (h : isStar e = false) : assignEach (e :: es) env = (false, assign e env) :: assignEach es env := by
  cases e <;> first | rfl | simp [isStar] at h
theorem behind_of {op : CmpOp} {e : Expr} (h : isSet e = false) : behindInMarks op e = false := by
  cases e <;> first | rfl | simp [isSet] at h
theorem plainIx_of {e : Expr} (h : isSlice e = false) : PlainIx e := fun o i => by
  cases e <;> first | rfl | simp [isSlice] at h
theorem folded_of {e : Expr} {env : PySem.Env} (h : isSet e = false) : ∀ x, foldedSetIterable e env x = pure x := fun x => by
  cases e <;> first | rfl | simp [isSet] at h
theorem bop_ok (hK : X.K = G.K) {o : Operator} {b : Bop} (h : bopOf o = some b) : OpOk G X (binaryOp o) (binD b) := by
  cases o <;> simp [bopOf] at h <;> subst h
  · exact ok_add hK
  · exact ok_sub hK
  · exact ok_mul hK
  · exact ok_mod hK
  · exact ok_pow hK
  · exact ok_shl hK
  · exact ok_fdiv hK
theorem cop_ok (hK : X.K = G.K) (hu : X.A.units + 65 < cLine) {o : CmpOp} {b : Cop} (h : copOf o = some b) : CpOk G X o b := by
  cases o <;> simp [copOf] at h <;> subst h
  · exact ok_eq hK hu
  · exact ok_ne hK hu
  · exact ok_lt hK (by omega)
  · exact ok_le
  · exact ok_gt hK (by omega)
  · exact ok_ge
  · exact ok_in hK hu
  · exact ok_notin hK hu
theorem pt_ifExp {c a b : Expr} {pos : Pos} {tA tB1 tB2 : TT} (hc : PT X c tA) (ha : PT X a tB1) (hb : PT X b tB2) : PT X (.IfExp c a b pos) (fun σ H Q => tA σ H fun k H1 => if k = true then tB1 σ H1 Q else tB2 σ H1 Q) := by
  refine ⟨fun pins s σ H Q I h => ?_⟩
  show wpAny _ _ (do
    if ← isTrue c X.env (eval c X.env) then isTrue a X.env (eval a X.env) else isTrue b X.env (eval b X.env)) _ _ s
  refine wpAny_bind (thn (hc.run pins s σ H _ I h) fun d s1 ⟨H1, I1, q1⟩ => ?_)
  cases d with
  | true => exact ha.run pins s1 σ H1 Q I1 q1
  | false => exact hb.run pins s1 σ H1 Q I1 q1
theorem rdt_ifx {c f g : Ev → R Bool} {σ : Sg} {H : Hp} {Q : Bool → Hp → Prop} (h : rdT G W (fun ρ => (c ρ).bind fun k => if k = true then f ρ else g ρ) σ H Q) : rdT G W c σ H fun k H1 => if k = true then rdT G W f σ H1 Q else rdT G W g σ H1 Q := by
  obtain ⟨ρ, O, hb, hr, h⟩ := h
  refine ⟨ρ, O, hb, hr, kT_bindT hb h fun d H1 e s hb1 k => ?_⟩
  by_cases hd : d = true
  · rw [if_pos hd] at k ⊢
    exact ⟨ρ, O, hb1, hr.same s, k⟩
  · rw [if_neg hd] at k ⊢
    exact ⟨ρ, O, hb1, hr.same s, k⟩
theorem kE_isN {σ : Sg} {O : Addr → Prop} {H : Hp} {Q : VK} {r : R DB} {p : Bool} (hb : Bnd G O H) (h : kE G W σ O H Q (r.bind fun x => match isD .non x.1 with | some b => .ok (.bl (if p then b else !b), false) | none => .bad)) :
    kE G W σ O H (fun x H1 => Q (.bl (if p then decide (x = .non) else !decide (x = .non))) H1) r := by
  refine kE_bind hb h fun d v H1 _ s hb1 r h1 => ?_
  have r' := r.den hb
  obtain ⟨d1, d2⟩ := d
  cases p <;> cases r' <;> exact h1 _ _ (Same.refl _) (Res.of (.bl _))
theorem dt_isN {a : Expr} {f : Ev → R DB} {pos pos' : Pos} {j : Nat} (ha : PE X a (rdE G W f)) : PT X (.Compare a [.Is] [.Constant .none j pos'] pos) (rdT G W fun ρ => boolR ((f ρ).bind fun x => match isD .non x.1 with | some b => .ok (.bl (if true then b else !b), false) | none => .bad)) :=
  PT_imp (pt_cmp (pc_isN ha) rfl) fun σ H Q h => by
    obtain ⟨ρ, O, hb, hr, h⟩ := rdT_bool h
    exact ⟨ρ, O, hb, hr, kE_isN (p := true) hb h⟩
theorem dt_notN {a : Expr} {f : Ev → R DB} {pos pos' : Pos} {j : Nat} (ha : PE X a (rdE G W f)) : PT X (.Compare a [.IsNot] [.Constant .none j pos'] pos) (rdT G W fun ρ => boolR ((f ρ).bind fun x => match isD .non x.1 with | some b => .ok (.bl (if false then b else !b), false) | none => .bad)) :=
  PT_imp (pt_cmp (pc_notN ha) rfl) fun σ H Q h => by
    obtain ⟨ρ, O, hb, hr, h⟩ := rdT_bool h
    exact ⟨ρ, O, hb, hr, kE_isN (p := false) hb h⟩
theorem dt_isB {a : Expr} {f : Ev → R DB} {pos pos' : Pos} {j : Nat} {c : Bool} (ha : PE X a (rdE G W f)) : PT X (.Compare a [.Is] [.Constant (.bool c) j pos'] pos) (rdT G W fun ρ => boolR ((f ρ).bind fun x => match isD (.bl c) x.1 with | some b => .ok (.bl (if true then b else !b), false) | none => .bad)) := by
  refine PT_imp (pt_cmpR op_isBl ha pe_bl (nomark _)) fun σ H Q h => ?_
  obtain ⟨ρ, O, hb, hr, h⟩ := rdT_bool h
  refine ⟨ρ, O, hb, hr, kE_bind hb h fun d v H1 _ s hb1 r h1 => ?_⟩
  have r' := r.den hb
  obtain ⟨d1, d2⟩ := d
  cases r' with
  | bl k =>
    have q := h1 _ _ (Same.refl _) (Res.of (.bl _))
    exact ⟨k, c, rfl, rfl, by
      have e : decide (k = c) = decide (c = k) := by cases k <;> cases c <;> rfl
      rw [e]; exact q⟩
  | _ => exact False.elim h1
theorem dt_notB {a : Expr} {f : Ev → R DB} {pos pos' : Pos} {j : Nat} {c : Bool} (ha : PE X a (rdE G W f)) : PT X (.Compare a [.IsNot] [.Constant (.bool c) j pos'] pos) (rdT G W fun ρ => boolR ((f ρ).bind fun x => match isD (.bl c) x.1 with | some b => .ok (.bl (if false then b else !b), false) | none => .bad)) := by
  refine PT_imp (pt_cmpR op_notBl ha pe_bl (nomark _)) fun σ H Q h => ?_
  obtain ⟨ρ, O, hb, hr, h⟩ := rdT_bool h
  refine ⟨ρ, O, hb, hr, kE_bind hb h fun d v H1 _ s hb1 r h1 => ?_⟩
  have r' := r.den hb
  obtain ⟨d1, d2⟩ := d
  cases r' with
  | bl k =>
    have q := h1 _ _ (Same.refl _) (Res.of (.bl _))
    exact ⟨k, c, rfl, rfl, by
      have e : (!decide (k = c)) = !decide (c = k) := by cases k <;> cases c <;> rfl
      rw [e]; exact q⟩
  | _ => exact False.elim h1
/-- isinstance(e, T) -/
theorem rd_isi {t : Ty} {f : Ev → R DB} {σ : Sg} {H : Hp} {Q : VK} (h : rdE G W (fun ρ => ((f ρ).bind fun x => (R.ok []).bind fun xs => .ok (x.1 :: xs)).bind fun ds => prD (.isi t) ds) σ H Q) :
    tCB (rIsT G t) (tCons (rdE G W f) (tCons (tC (.ty (tyS t))) tNil)) σ H Q := by
  obtain ⟨ρ, O, hb, hr, h⟩ := h
  refine ⟨ρ, O, hb, hr, ?_⟩
  have h' : kE G W σ O H Q ((f ρ).bind fun x => prD (.isi t) [x.1]) := by
    dsimp only at h
    cases e : f ρ with
    | ok d => rw [e] at h; exact h
    | err c => rw [e] at h; exact h
    | bad => rw [e] at h; exact h
  refine kE_bind hb h' fun d v H1 _ s hb1 r h1 => ⟨O, d.1, v, rfl, hb1, r.den hb, ?_⟩
  simp only [prD] at h1
  cases e : tyD t d.1 with
  | none => rw [e] at h1; exact h1
  | some b => rw [e] at h1; exact h1 _ _ (Same.refl _) (Res.of (.bl b))
theorem evs_len : ∀ {es : Es} {n : Nat} {cs : List Expr} {ρ : Ev} {ds : List D}, compEs n cc cs = some es → evs C es ρ = .ok ds → ds.length = cs.length
  | _, 0, _, _, _, h, _ => by simp [compEs] at h
  | es, n + 1, [], ρ, ds, h, e => by
    simp [compEs] at h
    subst h
    simp [evs] at e
    subst e
    rfl
  | es, n + 1, c :: cs, ρ, ds, h, e => by
    simp only [compEs] at h
    split at h
    · cases h
    · obtain ⟨e1, _, h⟩ := Option.bind_eq_some_iff.mp h
      obtain ⟨es', h2, h⟩ := Option.bind_eq_some_iff.mp h
      cases h
      simp only [evs] at e
      cases q1 : ev C e1 ρ with
      | err c => rw [q1] at e; cases e
      | bad => rw [q1] at e; cases e
      | ok d =>
        rw [q1, R.bind_ok] at e
        cases q2 : evs C es' ρ with
        | err c => rw [q2] at e; cases e
        | bad => rw [q2] at e; cases e
        | ok ds' =>
          rw [q2, R.bind_ok] at e
          cases e
          rw [List.length_cons, List.length_cons, evs_len h2 q2]
/-- the targets -/
theorem tg_ok : ∀ {n : Nat} {e : Expr} {t : Tg}, XOk G C k cc W X → compTg n cc e = some t → PG X e (rdG G t) ∧ PG X e (rdGS G t)
  | 0, e, t, h, c => by simp [compTg] at c
  | n + 1, .Name x p, t, h, c => by
    simp only [compTg, Option.map_eq_some_iff] at c
    obtain ⟨i, c1, rfl⟩ := c
    obtain ⟨h1, h2, h3⟩ := h.tslot c1
    exact ⟨dg_nm h.nd h1 h2 h3, dgs_nm h.nd h1 h2 h3⟩
  | n + 1, .Tuple [a, b] kk p, t, h, c => by
    simp only [compTg] at c
    split at c
    · cases c
    · rename_i hs
      simp only [Bool.or_eq_true, not_or, Bool.not_eq_true] at hs
      obtain ⟨x, c1, c⟩ := Option.bind_eq_some_iff.mp c
      obtain ⟨y, c2, c⟩ := Option.bind_eq_some_iff.mp c
      cases c
      have A := tg_ok h c1
      have B := tg_ok h c2
      have e1 : assignEach [b] X.env = [(false, assign b X.env)] := asgE_of hs.2
      have e2 : assignEach [a, b] X.env = [(false, assign a X.env), (false, assign b X.env)] := (asgE_of hs.1).trans (by rw [e1])
      exact ⟨dg_tp2 h.K h.calm A.1 B.1 e1 e2, dgs_tp2 h.K h.calm A.2 B.2 e1 e2⟩
  | n + 1, .Tuple [a, b, d] kk p, t, h, c => by
    simp only [compTg] at c
    split at c
    · cases c
    · rename_i hs
      simp only [Bool.or_eq_true, not_or, Bool.not_eq_true] at hs
      obtain ⟨x, c1, c⟩ := Option.bind_eq_some_iff.mp c
      obtain ⟨y, c2, c⟩ := Option.bind_eq_some_iff.mp c
      obtain ⟨z, c3, c⟩ := Option.bind_eq_some_iff.mp c
      cases c
      have A := tg_ok h c1
      have B := tg_ok h c2
      have E := tg_ok h c3
      have e0 : assignEach [d] X.env = [(false, assign d X.env)] := asgE_of hs.2
      have e1 : assignEach [b, d] X.env = [(false, assign b X.env), (false, assign d X.env)] := (asgE_of hs.1.2).trans (by rw [e0])
      have e2 : assignEach [a, b, d] X.env = [(false, assign a X.env), (false, assign b X.env), (false, assign d X.env)] := (asgE_of hs.1.1).trans (by rw [e1])
      exact ⟨dg_tp3 h.K h.calm A.1 B.1 E.1 e0 e1 e2, dgs_tp3 h.K h.calm A.2 B.2 E.2 e0 e1 e2⟩
  | n + 1, .Tuple [] _ _, t, h, c => by simp [compTg] at c
  | n + 1, .Tuple [_] _ _, t, h, c => by simp [compTg] at c
  | n + 1, .Tuple (_ :: _ :: _ :: _ :: _) _ _, t, h, c => by simp [compTg] at c
  | n + 1, .BoolOp .., t, h, c => by simp [compTg] at c
  | n + 1, .NamedExpr .., t, h, c => by simp [compTg] at c
  | n + 1, .BinOp .., t, h, c => by simp [compTg] at c
  | n + 1, .UnaryOp .., t, h, c => by simp [compTg] at c
  | n + 1, .Lambda .., t, h, c => by simp [compTg] at c
  | n + 1, .IfExp .., t, h, c => by simp [compTg] at c
  | n + 1, .Dict .., t, h, c => by simp [compTg] at c
  | n + 1, .Set .., t, h, c => by simp [compTg] at c
  | n + 1, .ListComp .., t, h, c => by simp [compTg] at c
  | n + 1, .SetComp .., t, h, c => by simp [compTg] at c
  | n + 1, .DictComp .., t, h, c => by simp [compTg] at c
  | n + 1, .GeneratorExp .., t, h, c => by simp [compTg] at c
  | n + 1, .Await .., t, h, c => by simp [compTg] at c
  | n + 1, .Yield .., t, h, c => by simp [compTg] at c
  | n + 1, .YieldFrom .., t, h, c => by simp [compTg] at c
  | n + 1, .Compare .., t, h, c => by simp [compTg] at c
  | n + 1, .Call .., t, h, c => by simp [compTg] at c
  | n + 1, .FormattedValue .., t, h, c => by simp [compTg] at c
  | n + 1, .JoinedStr .., t, h, c => by simp [compTg] at c
  | n + 1, .Constant .., t, h, c => by simp [compTg] at c
  | n + 1, .Attribute .., t, h, c => by simp [compTg] at c
  | n + 1, .Subscript .., t, h, c => by simp [compTg] at c
  | n + 1, .Starred .., t, h, c => by simp [compTg] at c
  | n + 1, .List .., t, h, c => by simp [compTg] at c
  | n + 1, .Slice .., t, h, c => by simp [compTg] at c
/-- a block -/
theorem blkB_ok {N : List Str} {sc scope : Scope} {own : List (Str × Nat)} (h : blkB N sc scope own = true) : BlkOk N sc scope own := by
  unfold blkB at h
  simp only [Bool.and_eq_true, decide_eq_true_eq, List.all_eq_true, beq_iff_eq, Bool.or_eq_true, Bool.not_eq_true', beq_eq_false_iff_ne, Bool.or_eq_false_iff, List.contains_iff_mem, ne_eq] at h
  obtain ⟨⟨⟨⟨h1, h2⟩, h3⟩, h4⟩, h5⟩ := h
  refine ⟨h1, h2, h3, fun y hy e => ?_, fun y hy e => ?_⟩
  · rcases h4 y hy with (q | q) | q
    · exact absurd e q
    · exact .inl q
    · exact .inr q
  · rcases h5 y hy with (q | q) | q
    · rcases e with e | e
      · exact absurd e q.1
      · exact absurd e q.2
    · exact .inl q
    · refine .inr fun z => ?_
      have : N.contains y.1 = true := by simpa using z
      rw [this] at q
      cases q
theorem XOk.blk (h : XOk G C k cc W X) (s : Shared) (H : Hp) (scope : Scope) (L : Addr) (cl : List (Str × Addr)) (fp : List Addr) : XOk G C k (cc.blk scope) W0 (X.blk s H scope (compEnvC scope cl L X.env) fp) where
  g := ⟨h.g.prog, h.g.w, h.g.K, h.g.mg, h.g.base⟩
  N := h.N
  nd := h.nd
  sc := by
    show relS scope X.env.scope = relS scope cc.sc
    rw [h.sc]
  fn := rfl
  calm := h.calm
  room := h.room
  tk := takes0
  po := PassesOwn.never
  gt := h.gt
  F := h.F
  lam := fun z => Bool.noConfusion z
end
end SS

set_option maxRecDepth 100000
set_option maxHeartbeats 4000000
/-! SSO: the induction over expressions -/
namespace SS
open PySem PySem.Spec PyProof.Rows L2
structure IH (G : Gb) (C : Orc) (k n : Nat) : Prop where
  e : ∀ {cc : CC} {W : WX} {X : Cx} {e : Expr} {c : E}, XOk G C k cc W X → compE n cc e = some c → PE X e (rdE G W (ev C c)) ∧ PT X e (rdT G W fun ρ => boolR (ev C c ρ))
  es : ∀ {cc : CC} {W : WX} {X : Cx} {e : List Expr} {c : Es}, XOk G C k cc W X → compEs n cc e = some c → PA X e (rdA G W (evs C c)) ∧ ∀ env p, (backTo p (starEach e env)).any (·.1) = false
  an : ∀ {cc : CC} {W : WX} {X : Cx} {e : List Expr} {c : E}, XOk G C k cc W X → compAnd n cc e = some c → ∀ p, PE X (.BoolOp .And e p) (rdE G W (ev C c)) ∧ PW X (.BoolOp .And e p) (rdT G W fun ρ => boolR (ev C c ρ))
  or : ∀ {cc : CC} {W : WX} {X : Cx} {e : List Expr} {c : E}, XOk G C k cc W X → compOr n cc e = some c → ∀ p, PE X (.BoolOp .Or e p) (rdE G W (ev C c)) ∧ PW X (.BoolOp .Or e p) (rdT G W fun ρ => boolR (ev C c ρ))
  st : ∀ {cc : CC} {W : WX} {X : Cx} {es : List Expr} {c : E}, XOk G C k cc W X → compSt n cc es = some c → ∀ (p pos : Pos), Gl X "sorted" → X.mg "sorted" = none → PE X (.Call (.Name "sorted" p) es [] pos) (rdE G W (ev C (.srs c)))
  kw : ∀ {cc : CC} {W : WX} {X : Cx} {x kk : Str} {a v : Expr} {c : E}, XOk G C k cc W X → compKw n cc x a kk v = some c → isStar a = false → cc.isBlt x = true → ∀ (p kp pos : Pos), PE X (.Call (.Name x p) [a] [⟨some kk, v, kp⟩] pos) (rdE G W (ev C c))
  rg : ∀ {cc : CC} {W : WX} {X : Cx} {es : List Expr} {c : Sr}, XOk G C k cc W X → compRg n cc es = some c → ∀ (t : Bool) (p pos : Pos), Gl X (rgN t) → X.mg (rgN t) = none → PE X (.Call (.Name (rgN t) p) es [] pos) (rdE G W (ev C (.rng t c)))
  sr : ∀ {cc : CC} {W : WX} {X : Cx} {tg e : Expr} {c : Sr}, XOk G C k cc W X → compSr n cc tg e = some c → PI X tg e (rdS G W (evSr C c))
section
variable {G : Gb} {C : Orc} {k n : Nat} {cc : CC} {W : WX} {X : Cx}
theorem IH.zero : IH G C k 0 := ⟨fun _ h => by simp [compE] at h, fun _ h => by simp [compEs] at h, fun _ h => by simp [compAnd] at h, fun _ h => by simp [compOr] at h, fun _ h => by simp [compSt] at h, fun _ h => by simp [compKw] at h, fun _ h => by simp [compRg] at h, fun _ h => by simp [compSr] at h⟩
theorem plain {e : Expr} {c : E} (h : PE X e (rdE G W (ev C c))) (he : ∀ whole, isTrue e X.env whole = (do let v ← whole; standAt e.pos; holding [v] (truthy v))) : PE X e (rdE G W (ev C c)) ∧ PT X e (rdT G W fun ρ => boolR (ev C c ρ)) := ⟨h, dt_val h he⟩
theorem s_const {v : Const} {j : Nat} {p : Pos} {d : D} (h : compK v = some d) : PE X (.Constant v j p) (rdE G W (ev C (.cst d))) := by
  cases v <;> simp [compK] at h <;> subst h
  · exact de_cst pe_non fun _ _ => .non
  · exact de_cst pe_bl fun _ _ => .bl _
  · exact de_cst pe_int fun _ _ => .int _
  · exact de_cst pe_str fun _ _ => .str _
theorem s_name {x : Str} {p : Pos} {c : E} (h : XOk G C k cc W X) (e : compN cc x = some c) : PE X (.Name x p) (rdE G W (ev C c)) := by
  unfold compN at e
  split at e
  · rename_i i q
    cases e
    obtain ⟨h1, h2, h3, h4⟩ := h.slot q
    exact de_var h1 h2 h3 h4
  · split at e
    · rename_i i q
      cases e
      obtain ⟨h1, h2, h3⟩ := h.glob q
      exact de_cst (pe_glob (v := .ref (G.fa i)) h1 (by rw [h.mg]; exact h3) rfl h2) fun _ _ => .fn i
    · rename_i d q
      cases e
      obtain ⟨h1, h2, v, u, h3, h4, h5⟩ := h.glob q
      exact de_cst (pe_glob (v := v) h1 (by rw [h.mg]; exact h3) h4 h2) h5
    · cases e
/-- built-in calls -/
theorem s_prim {x : Str} {p : Prim} {args : List Expr} {es : Es} {p1 pos : Pos} (h : XOk G C k cc W X) (hb : cc.isBlt x = true) (hp : primOf x = some p) (ha : PA X args (rdA G W (evs C es))) (hst : ∀ a r, args = a :: r → starEach (a :: r) X.env = (false, eval a X.env) :: starEach r X.env) (hpl : ∀ env p, (backTo p (starEach args env)).any (·.1) = false) (hne : args.isEmpty = false) :
    PE X (.Call (.Name x p1) args [] pos) (rdE G W (ev C (.prim p es))) := by
  cases args with
  | nil => simp at hne
  | cons a r =>
    have hst := hst a r rfl
    obtain ⟨g1, g2, g3⟩ := h.blt hb
    have hpl' : (backTo pos (starEach r X.env)).any (·.1) = false := by
      have := hpl X.env pos
      rw [hst] at this
      simpa [backTo] using this
    have B : ∀ (id : String), CallR X (.builtin id) (rPr G p) → bootBuiltins x = some (.builtin id) → x ≠ "__name__" → PE X (.Call (.Name x p1) (a :: r) [] pos) (rdE G W (ev C (.prim p es))) := fun id hc hv hn =>
      PE_imp (pe_callB hc g1 g3 hv ha hn g2 hst hpl') fun σ H Q q => rd_pr q
    have T : ∀ (id : String), CallR X (.type id) (rPr G p) → bootBuiltins x = some (.type id) → x ≠ "__name__" → PE X (.Call (.Name x p1) (a :: r) [] pos) (rdE G W (ev C (.prim p es))) := fun id hc hv hn =>
      PE_imp (pe_callTy hc g1 g3 hv ha hn g2 hst hpl') fun σ H Q q => rd_pr q
    unfold primOf at hp
    split at hp
    · rename_i q
      have e : x = pLen := by simpa using q
      subst e
      cases hp
      exact B "len" (ok_len h.K) (by decide +kernel) (by decide +kernel)
    split at hp
    · rename_i q
      have e : x = pMin := by simpa using q
      subst e
      cases hp
      exact B "min" (ok_min h.K (by have := h.hu; omega) h.calm) (by decide +kernel) (by decide +kernel)
    split at hp
    · rename_i q
      have e : x = pMax := by simpa using q
      subst e
      cases hp
      exact B "max" (ok_max h.K h.calm) (by decide +kernel) (by decide +kernel)
    split at hp
    · rename_i q
      have e : x = pSum := by simpa using q
      subst e
      cases hp
      exact B "sum" (ok_sum h.K h.calm) (by decide +kernel) (by decide +kernel)
    split at hp
    · rename_i q
      have e : x = pAll := by simpa using q
      subst e
      cases hp
      exact B "all" (ok_all h.K h.calm) (by decide +kernel) (by decide +kernel)
    split at hp
    · rename_i q
      have e : x = pAny := by simpa using q
      subst e
      cases hp
      exact B "any" (ok_any h.K h.calm) (by decide +kernel) (by decide +kernel)
    split at hp
    · rename_i q
      have e : x = pSorted := by simpa using q
      subst e
      cases hp
      exact B "sorted" (ok_sorted h.K) (by decide +kernel) (by decide +kernel)
    split at hp
    · rename_i q
      have e : x = pTuple := by simpa using q
      subst e
      cases hp
      exact T "tuple" (ok_tuple h.K) (by decide +kernel) (by decide +kernel)
    split at hp
    · rename_i q
      have e : x = pList := by simpa using q
      subst e
      cases hp
      exact T "list" (ok_list h.K) (by decide +kernel) (by decide +kernel)
    split at hp
    · rename_i q
      have e : x = pInt := by simpa using q
      subst e
      cases hp
      exact T "int" ok_int (by decide +kernel) (by decide +kernel)
    split at hp
    · rename_i q
      have e : x = pDict := by simpa using q
      subst e
      cases hp
      exact T "dict" (ok_dict h.K h.calm) (by decide +kernel) (by decide +kernel)
    · cases hp
theorem boot_isi : bootBuiltins pIsI = some (.builtin "isinstance") := by decide +kernel
theorem isi_name : pIsI ≠ "__name__" := by decide +kernel
theorem ty_boot {t : Str} {T : Ty} (h : tyOf t = some T) : bootBuiltins t = some (.type (tyS T)) ∧ t ≠ "__name__" := by
  unfold tyOf at h
  split at h
  · rename_i q; have e : t = pInt := by simpa using q
    subst e; cases h; exact ⟨by decide +kernel, by decide +kernel⟩
  split at h
  · rename_i q; have e : t = pBool := by simpa using q
    subst e; cases h; exact ⟨by decide +kernel, by decide +kernel⟩
  split at h
  · rename_i q; have e : t = pStr := by simpa using q
    subst e; cases h; exact ⟨by decide +kernel, by decide +kernel⟩
  split at h
  · rename_i q; have e : t = pTuple := by simpa using q
    subst e; cases h; exact ⟨by decide +kernel, by decide +kernel⟩
  split at h
  · rename_i q; have e : t = pList := by simpa using q
    subst e; cases h; exact ⟨by decide +kernel, by decide +kernel⟩
  · cases h
theorem s_isi {e : Expr} {t : Str} {T : Ty} {c : E} {p1 p2 pos : Pos} (h : XOk G C k cc W X) (hb : cc.isBlt pIsI = true) (hs : isStar e = false) (ht : cc.isBlt t = true) (hT : tyOf t = some T) (he : PE X e (rdE G W (ev C c))) :
    PE X (.Call (.Name pIsI p1) [e, .Name t p2] [] pos) (rdE G W (ev C (.prim (.isi T) (.cons c .nil)))) := by
  obtain ⟨g1, g2, g3⟩ := h.blt hb
  obtain ⟨t1, t2, t3⟩ := h.blt ht
  obtain ⟨b1, b2⟩ := ty_boot hT
  exact PE_imp (pe_callB (ok_isi h.K T) g1 g3 boot_isi (pa_cons he (pa_cons (pe_bltn (v := .ty (tyS T)) t1 t3 b1 rfl b2 t2) pa_nil) (star_of hs)) isi_name g2 (star_of hs) (by rfl)) fun σ H Q q => rd_isi q
/-- comprehensions -/
structure Lc1 (G : Gb) (C : Orc) (W : WX) (X : Cx) (elt tgE iter : Expr) (ifs : List Expr) (scope : Scope) (c : E) : Prop where
  ex : ∃ (own : List (Str × Nat)) (fs : Ev → R (List D)) (tg : Tg) (ft : Ev → R Bool) (fe : Ev → R DB) (tt : TT), (ev C c = fun ρ => (fs ρ).bind fun xs => noErr ((compL (turnF tg ft fe (own.map (·.2)) ρ) xs).bind fun ys => .ok (.lst ys, true))) ∧
    (∀ σ H Q, rdT G W0 ft σ H Q → tt σ H Q) ∧ (∀ i ∈ tgSlots tg, i ∈ own.map (·.2)) ∧ PI X tgE iter (rdS G W fs) ∧ BlkOk X.N X.env.scope scope own ∧
    (∀ (s : Shared) (H : Hp) (C : Addr) (cl : List (Str × Addr)) (fp : List Addr), PG (X.blk s H scope (compEnvC scope cl C X.env) fp) tgE (rdG G tg)) ∧
    (∀ (s : Shared) (H : Hp) (C : Addr) (cl : List (Str × Addr)) (fp : List Addr), PTs (X.blk s H scope (compEnvC scope cl C X.env) fp) ifs tt) ∧
    (∀ (s : Shared) (H : Hp) (C : Addr) (cl : List (Str × Addr)) (fp : List Addr), PE (X.blk s H scope (compEnvC scope cl C X.env) fp) elt (rdE G W0 fe)) ∧
    ∀ x, foldedSetIterable iter X.env x = pure x
structure Lc2 (G : Gb) (C : Orc) (W : WX) (X : Cx) (elt tgE iter tgE1 iter1 : Expr) (scope : Scope) (c : E) : Prop where
  ex : ∃ (own : List (Str × Nat)) (own1 : List Nat) (fs fs1 : Ev → R (List D)) (tg tg1 : Tg) (fe : Ev → R DB), (ev C c = fun ρ => (fs ρ).bind fun xs => noErr ((catL (turn2 tg fs1 tg1 (fun _ => .ok true) fe (own.map (·.2)) own1 ρ) xs).bind fun zs => okIf (decide (zs.length ≤ szl)) (.lst zs, true))) ∧
    (∀ i ∈ tgSlots tg, i ∈ own.map (·.2)) ∧ (∀ i ∈ tgSlots tg1, i ∈ own1) ∧ (∀ i ∈ own1, i ∈ own.map (·.2)) ∧ PI X tgE iter (rdS G W fs) ∧ BlkOk X.N X.env.scope scope own ∧
    (∀ (s : Shared) (H : Hp) (C : Addr) (cl : List (Str × Addr)) (fp : List Addr), PG (X.blk s H scope (compEnvC scope cl C X.env) fp) tgE (rdG G tg)) ∧
    (∀ (s : Shared) (H : Hp) (C : Addr) (cl : List (Str × Addr)) (fp : List Addr), PI (X.blk s H scope (compEnvC scope cl C X.env) fp) tgE1 iter1 (rdS G W0 fs1)) ∧
    (∀ (s : Shared) (H : Hp) (C : Addr) (cl : List (Str × Addr)) (fp : List Addr), PG (X.blk s H scope (compEnvC scope cl C X.env) fp) tgE1 (rdG G tg1)) ∧
    (∀ (s : Shared) (H : Hp) (C : Addr) (cl : List (Str × Addr)) (fp : List Addr), PE (X.blk s H scope (compEnvC scope cl C X.env) fp) elt (rdE G W0 fe)) ∧
    (∀ x, foldedSetIterable iter X.env x = pure x) ∧ ∀ env x, foldedSetIterable iter1 env x = pure x
theorem subB_ok {a b : List Nat} (h : subB a b = true) : ∀ i ∈ a, i ∈ b := fun i hi => by
  unfold subB at h
  rw [List.all_eq_true] at h
  simpa using h i hi
theorem lc1_parts {elt tg iter : Expr} {scope : Scope} {pos : Pos} {c : E} (I : IH G C k n) (h : XOk G C k cc W X) (e : compE (n + 1) cc (.ListComp elt [⟨tg, iter, [], 0⟩] scope pos) = some c) : Lc1 G C W X elt tg iter [] scope c := by
  simp only [compE] at e
  split at e
  · rename_i q
    simp only [Bool.and_eq_true, Bool.not_eq_true'] at q
    obtain ⟨tg', c1, e⟩ := Option.bind_eq_some_iff.mp e
    obtain ⟨src, c2, e⟩ := Option.bind_eq_some_iff.mp e
    obtain ⟨el, c3, e⟩ := Option.bind_eq_some_iff.mp e
    split at e
    · rename_i q2
      cases e
      refine ⟨ownOf cc.N scope, evSr C src, tg', fun _ => .ok true, ev C el, tYes, ?_, fun _ _ _ h => rdt_true h, subB_ok q2, I.sr h c2, ?_, fun s H L cl fp => (tg_ok (h.blk s H scope L cl fp) c1).1, fun _ _ _ _ _ => pts_nil, fun s H L cl fp => (I.e (h.blk s H scope L cl fp) c3).1, folded_of q.2⟩
      · funext ρ
        simp only [ev, turnF, R.bind_ok, if_true]
        rfl
      · rw [h.N, h.sc]
        exact blkB_ok q.1
    · cases e
  · cases e
theorem lc1f_parts {elt tg iter test : Expr} {scope : Scope} {pos : Pos} {c : E} (I : IH G C k n) (h : XOk G C k cc W X) (e : compE (n + 1) cc (.ListComp elt [⟨tg, iter, [test], 0⟩] scope pos) = some c) : Lc1 G C W X elt tg iter [test] scope c := by
  simp only [compE] at e
  split at e
  · rename_i q
    simp only [Bool.and_eq_true, Bool.not_eq_true'] at q
    obtain ⟨tg', c1, e⟩ := Option.bind_eq_some_iff.mp e
    obtain ⟨src, c2, e⟩ := Option.bind_eq_some_iff.mp e
    obtain ⟨te, c4, e⟩ := Option.bind_eq_some_iff.mp e
    obtain ⟨el, c3, e⟩ := Option.bind_eq_some_iff.mp e
    split at e
    · rename_i q2
      cases e
      refine ⟨ownOf cc.N scope, evSr C src, tg', fun ρ => boolR (ev C te ρ), ev C el, rdT G W0 fun ρ => boolR (ev C te ρ), ?_, fun _ _ _ h => h, subB_ok q2, I.sr h c2, ?_, fun s H L cl fp => (tg_ok (h.blk s H scope L cl fp) c1).1, fun s H L cl fp => pts_one (I.e (h.blk s H scope L cl fp) c4).2, fun s H L cl fp => (I.e (h.blk s H scope L cl fp) c3).1, folded_of q.2⟩
      · funext ρ
        simp only [ev, turnF]
        rfl
      · rw [h.N, h.sc]
        exact blkB_ok q.1
    · cases e
  · cases e
theorem lc2_parts {elt tg iter tg1 iter1 : Expr} {scope : Scope} {pos : Pos} {c : E} (I : IH G C k n) (h : XOk G C k cc W X) (e : compE (n + 1) cc (.ListComp elt [⟨tg, iter, [], 0⟩, ⟨tg1, iter1, [], 0⟩] scope pos) = some c) : Lc2 G C W X elt tg iter tg1 iter1 scope c := by
  simp only [compE] at e
  split at e
  · rename_i q
    simp only [Bool.and_eq_true, Bool.not_eq_true'] at q
    obtain ⟨tg', c1, e⟩ := Option.bind_eq_some_iff.mp e
    obtain ⟨src, c2, e⟩ := Option.bind_eq_some_iff.mp e
    obtain ⟨tg1', c4, e⟩ := Option.bind_eq_some_iff.mp e
    obtain ⟨src1, c5, e⟩ := Option.bind_eq_some_iff.mp e
    obtain ⟨el, c3, e⟩ := Option.bind_eq_some_iff.mp e
    split at e
    · rename_i q2
      simp only [Bool.and_eq_true] at q2
      cases e
      refine ⟨ownOf cc.N scope, tgSlots tg1', evSr C src, evSr C src1, tg', tg1', ev C el, ?_, subB_ok q2.1, fun i hi => hi, subB_ok q2.2, I.sr h c2, ?_, fun s H L cl fp => (tg_ok (h.blk s H scope L cl fp) c1).1, fun s H L cl fp => I.sr (h.blk s H scope L cl fp) c5, fun s H L cl fp => (tg_ok (h.blk s H scope L cl fp) c4).1, fun s H L cl fp => (I.e (h.blk s H scope L cl fp) c3).1, folded_of q.1.2, fun env => folded_of q.2⟩
      · funext ρ
        simp only [ev, turn2, turnF, R.bind_ok, if_true]
        rfl
      · rw [h.N, h.sc]
        exact blkB_ok q.1.1
    · cases e
  · cases e
theorem Lc1.pe {elt tgE iter : Expr} {ifs : List Expr} {scope : Scope} {c : E} {pos : Pos} (h : XOk G C k cc W X) (L : Lc1 G C W X elt tgE iter ifs scope c) : PE X (.ListComp elt [⟨tgE, iter, ifs, 0⟩] scope pos) (rdE G W (ev C c)) := by
  obtain ⟨own, fs, tg, ft, fe, tt, e, htt, hts, hi, ok, hg, ht, he, hs⟩ := L.ex
  rw [e]
  exact PE_imp (pe_lc h.calm h.nd hi ok hg ht he hs) fun σ H Q q => rd_comp htt hts q
theorem Lc2.pe {elt tgE iter tgE1 iter1 : Expr} {scope : Scope} {c : E} {pos : Pos} (h : XOk G C k cc W X) (L : Lc2 G C W X elt tgE iter tgE1 iter1 scope c) : PE X (.ListComp elt [⟨tgE, iter, [], 0⟩, ⟨tgE1, iter1, [], 0⟩] scope pos) (rdE G W (ev C c)) := by
  obtain ⟨own, own1, fs, fs1, tg, tg1, fe, e, hts, hts1, hv, hi, ok, hg, hi1, hg1, he, hs, hs1⟩ := L.ex
  rw [e]
  exact PE_imp (pe_lc2 h.calm h.nd hi ok hv hg (fun _ _ _ _ _ => pts_nil) hi1 hg1 (fun _ _ _ _ _ => pts_nil) he hs hs1) fun σ H Q q => rd_comp2 (fun _ _ _ h => rdt_true h) hts hts1 q
end
end SS

set_option maxRecDepth 100000
set_option maxHeartbeats 4000000
/-! SSP: the induction, closed -/
namespace SS
open PySem PySem.Spec PyProof.Rows L2
section
variable {G : Gb} {C : Orc} {k n : Nat} {cc : CC} {W : WX} {X : Cx}
theorem an_succ (I : IH G C k n) {e : List Expr} {c : E} (h : XOk G C k cc W X) (q : compAnd (n + 1) cc e = some c) (p : Pos) : PE X (.BoolOp .And e p) (rdE G W (ev C c)) ∧ PW X (.BoolOp .And e p) (rdT G W fun ρ => boolR (ev C c ρ)) := by
  match e, q with
  | [], q => simp [compAnd] at q
  | [a], q =>
    simp only [compAnd] at q
    have A := I.e h q
    exact ⟨pe_one A.1, pw_and1 A.2⟩
  | a :: b :: r, q =>
    simp only [compAnd] at q
    obtain ⟨a', c1, q⟩ := Option.bind_eq_some_iff.mp q
    obtain ⟨r', c2, q⟩ := Option.bind_eq_some_iff.mp q
    cases q
    have A := I.e h c1
    have B := I.an h c2 p
    refine ⟨PE_imp (pe_and A.1 B.1) fun σ H Q z => rd_and z, PW_imp (pw_and A.2 B.2) fun σ H Q z => rdt_and ?_⟩
    have e : (fun ρ => boolR (ev C (.and a' r') ρ)) = fun ρ => (boolR (ev C a' ρ)).bind fun c => if c = true then boolR (ev C r' ρ) else .ok false := by
      funext ρ
      simp only [ev]
      exact bool_and
    rw [← e]
    exact z
theorem or_succ (I : IH G C k n) {e : List Expr} {c : E} (h : XOk G C k cc W X) (q : compOr (n + 1) cc e = some c) (p : Pos) : PE X (.BoolOp .Or e p) (rdE G W (ev C c)) ∧ PW X (.BoolOp .Or e p) (rdT G W fun ρ => boolR (ev C c ρ)) := by
  match e, q with
  | [], q => simp [compOr] at q
  | [a], q =>
    simp only [compOr] at q
    have A := I.e h q
    exact ⟨pe_one A.1, pw_or1 A.2⟩
  | a :: b :: r, q =>
    simp only [compOr] at q
    obtain ⟨a', c1, q⟩ := Option.bind_eq_some_iff.mp q
    obtain ⟨r', c2, q⟩ := Option.bind_eq_some_iff.mp q
    cases q
    have A := I.e h c1
    have B := I.or h c2 p
    refine ⟨PE_imp (pe_or A.1 B.1) fun σ H Q z => rd_or z, PW_imp (pw_or A.2 B.2) fun σ H Q z => rdt_or ?_⟩
    have e : (fun ρ => boolR (ev C (.or a' r') ρ)) = fun ρ => (boolR (ev C a' ρ)).bind fun c => if c = true then .ok true else boolR (ev C r' ρ) := by
      funext ρ
      simp only [ev]
      exact bool_or
    rw [← e]
    exact z
theorem es_succ (I : IH G C k n) {e : List Expr} {c : Es} (h : XOk G C k cc W X) (q : compEs (n + 1) cc e = some c) : PA X e (rdA G W (evs C c)) ∧ ∀ env p, (backTo p (starEach e env)).any (·.1) = false := by
  match e, q with
  | [], q =>
    simp [compEs] at q
    subst q
    exact ⟨da_nil, fun _ _ => rfl⟩
  | a :: r, q =>
    simp only [compEs] at q
    split at q
    · cases q
    · rename_i hs
      have hs : isStar a = false := (Bool.not_eq_true _).mp hs
      obtain ⟨a', c1, q⟩ := Option.bind_eq_some_iff.mp q
      obtain ⟨r', c2, q⟩ := Option.bind_eq_some_iff.mp q
      cases q
      have B := I.es h c2
      refine ⟨da_cons (I.e h c1).1 B.1 (star_of hs), fun env p => ?_⟩
      rw [star_of hs]
      have := B.2 env p
      simpa [backTo] using this
theorem es_star {cc : CC} {n : Nat} {a : Expr} {r : List Expr} {c : Es} {env : PySem.Env} (q : compEs n cc (a :: r) = some c) : starEach (a :: r) env = (false, eval a env) :: starEach r env := by
  cases n with
  | zero => simp [compEs] at q
  | succ n =>
    simp only [compEs] at q
    split at q
    · cases q
    · rename_i hs
      exact star_of ((Bool.not_eq_true _).mp hs)
theorem s_call (I : IH G C k n) {x : Str} {i : Nat} {args : List Expr} {d : Es} {p pos : Pos} (h : XOk G C k cc W X) (g1 : Gl X x) (g2 : (x == ("__debug__" : Str)) = false) (g3 : G.mg x = some (.ref (G.fa i))) (c1 : compEs n cc args = some d) :
    PE X (.Call (.Name x p) args [] pos) (rdE G W (ev C (.call i d))) := by
  have A := I.es h c1
  cases args with
  | nil =>
    cases n with
    | zero => simp [compEs] at c1
    | succ n =>
      simp [compEs] at c1
      subst c1
      exact de_call0 h.g h.tk (h.F _) h.room g1 g3 g2
  | cons a r =>
    have hpl : ∀ p, (backTo p (starEach r X.env)).any (·.1) = false := fun p => by
      have := A.2 X.env p
      rw [es_star c1] at this
      simpa [backTo] using this
    exact de_call h.g h.tk (h.F _) h.room g1 g3 A.1 g2 (es_star c1) (hpl _)
theorem s_callv (I : IH G C k n) {a b : Expr} {f : E} {args : List Expr} {d : Es} {p pos : Pos} (h : XOk G C k cc W X) (hf : PE X (.Subscript a b p) (rdE G W (ev C f))) (c1 : compEs n cc args = some d) (hne : args.isEmpty = false) :
    PE X (.Call (.Subscript a b p) args [] pos) (rdE G W (ev C (.callv f d))) := by
  have A := I.es h c1
  cases args with
  | nil => simp at hne
  | cons a r =>
    have hpl : ∀ p, (backTo p (starEach r X.env)).any (·.1) = false := fun p => by
      have := A.2 X.env p
      rw [es_star c1] at this
      simpa [backTo] using this
    exact de_callv h.g h.tk h.F h.room hf A.1 (es_star c1) (hpl _)
theorem sr_succ (I : IH G C k n) {tg e : Expr} {c : Sr} (h : XOk G C k cc W X) (q : compSr (n + 1) cc tg e = some c) : PI X tg e (rdS G W (evSr C c)) := by
  have seq : ∀ {e : Expr} {c : Sr}, (compE n cc e).map Sr.seq = some c → PI X tg e (rdS G W (evSr C c)) := fun q => by
    simp only [Option.map_eq_some_iff] at q
    obtain ⟨a, c1, rfl⟩ := q
    exact di_seq h.K (I.e h c1).1
  simp only [compSr] at q
  split at q
  · split at q
    · rename_i hx
      simp only [Bool.and_eq_true] at hx
      obtain ⟨g1, g2, g3⟩ := h.blt hx.2
      have e := eq_of_beq hx.1
      subst e
      split at q
      · cases q
      · rename_i hs
        simp only [Option.map_eq_some_iff] at q
        obtain ⟨a', c1, rfl⟩ := q
        exact di_rg1 g1 g3 (I.e h c1).1 (star_of ((Bool.not_eq_true _).mp hs))
    · split at q
      · rename_i hx
        simp only [Bool.and_eq_true] at hx
        obtain ⟨g1, g2, g3⟩ := h.blt hx.2
        have e := eq_of_beq hx.1
        subst e
        split at q
        · split at q
          · cases q
          · rename_i hs
            simp only [Option.map_eq_some_iff] at q
            obtain ⟨a', c1, rfl⟩ := q
            exact di_enum h.K g1 g3 (I.e h c1).1 (star_of ((Bool.not_eq_true _).mp hs))
        · cases q
      · exact seq q
  · split at q
    · rename_i hx
      simp only [Bool.and_eq_true] at hx
      obtain ⟨g1, g2, g3⟩ := h.blt hx.2
      have e := eq_of_beq hx.1
      subst e
      split at q
      · cases q
      · rename_i hs
        simp only [Bool.or_eq_true, not_or, Bool.not_eq_true] at hs
        obtain ⟨a', c1, q⟩ := Option.bind_eq_some_iff.mp q
        simp only [Option.map_eq_some_iff] at q
        obtain ⟨b', c2, rfl⟩ := q
        exact di_rg2 g1 g3 (I.e h c1).1 (I.e h c2).1 (star_of hs.2) (star_of hs.1)
    · split at q
      · rename_i hx
        simp only [Bool.and_eq_true] at hx
        obtain ⟨g1, g2, g3⟩ := h.blt hx.2
        have e := eq_of_beq hx.1
        subst e
        split at q
        · split at q
          · cases q
          · rename_i hs
            simp only [Bool.or_eq_true, not_or, Bool.not_eq_true] at hs
            obtain ⟨a', c1, q⟩ := Option.bind_eq_some_iff.mp q
            simp only [Option.map_eq_some_iff] at q
            obtain ⟨b', c2, rfl⟩ := q
            refine di_zip h.K g1 g3 (I.e h c1).1 (I.e h c2).1 (star_of hs.2) (star_of hs.1) ?_
            rw [star_of hs.2]
            rfl
        · cases q
      · exact seq q
  · exact seq q
theorem rg_succ (I : IH G C k n) {es : List Expr} {c : Sr} (h : XOk G C k cc W X) (q : compRg (n + 1) cc es = some c) (t : Bool) (p pos : Pos) (hg : Gl X (rgN t)) (hm : X.mg (rgN t) = none) : PE X (.Call (.Name (rgN t) p) es [] pos) (rdE G W (ev C (.rng t c))) := by
  unfold compRg at q
  split at q
  · cases q
  · rename_i heq
    cases heq
    split at q
    · rename_i hx
      simp only [Bool.and_eq_true, Bool.not_eq_true'] at hx
      obtain ⟨g1, g2, g3⟩ := h.blt hx.1.2
      have e := eq_of_beq hx.1.1
      subst e
      simp only [Option.map_eq_some_iff] at q
      obtain ⟨a', c1, rfl⟩ := q
      exact de_rng1 h.calm hg hm g1 g3 (I.e h c1).1 (star_of hx.2)
    · cases q
  · rename_i heq
    cases heq
    split at q
    · rename_i hx
      simp only [Bool.and_eq_true, Bool.not_eq_true'] at hx
      obtain ⟨g1, g2, g3⟩ := h.blt hx.1.1.2
      have e := eq_of_beq hx.1.1.1
      subst e
      obtain ⟨a', c1, q⟩ := Option.bind_eq_some_iff.mp q
      simp only [Option.map_eq_some_iff] at q
      obtain ⟨b', c2, rfl⟩ := q
      exact de_rng2 h.calm hg hm g1 g3 (I.e h c1).1 (I.e h c2).1 (star_of hx.2) (star_of hx.1.2)
    · cases q
  · cases q
theorem st_succ (I : IH G C k n) {es : List Expr} {c : E} (h : XOk G C k cc W X) (q : compSt (n + 1) cc es = some c) (p pos : Pos) (hg : Gl X "sorted") (hm : X.mg "sorted" = none) : PE X (.Call (.Name "sorted" p) es [] pos) (rdE G W (ev C (.srs c))) := by
  unfold compSt at q
  split at q
  · cases q
  · rename_i heq
    cases heq
    split at q
    · rename_i hx
      simp only [Bool.and_eq_true, Bool.not_eq_true'] at hx
      obtain ⟨g1, g2, g3⟩ := h.blt hx.1.2
      have e := eq_of_beq hx.1.1
      subst e
      exact de_srs h.K h.calm hg hm g1 g3 (I.e h q).1 (star_of hx.2)
    · cases q
  · cases q
theorem lamSc_ok {scope : Scope} (h : lamScB scope = true) : LamOk scope pLen := by
  unfold lamScB at h
  simp only [Bool.and_eq_true, decide_eq_true_eq, Bool.not_eq_true', List.all_eq_true, beq_iff_eq, beq_eq_false_iff_ne] at h
  obtain ⟨⟨⟨⟨⟨h1, h2⟩, h3⟩, h4⟩, h5⟩, h6⟩ := h
  exact ⟨h1, h2, h3, fun y hy => (h4 y hy).1, fun y hy => (h4 y hy).2, h5, h6, by decide⟩
theorem kw_succ (I : IH G C k n) {x kk : Str} {a v : Expr} {c : E} (h : XOk G C k cc W X) (q : compKw (n + 1) cc x a kk v = some c) (ha : isStar a = false) (hx : cc.isBlt x = true) (p kp pos : Pos) : PE X (.Call (.Name x p) [a] [⟨some kk, v, kp⟩] pos) (rdE G W (ev C c)) := by
  unfold compKw at q
  split at q
  · cases q
  · rename_i heq
    cases heq
    split at q
    · rename_i hc
      simp only [Bool.and_eq_true, beq_iff_eq] at hc
      obtain ⟨⟨⟨⟨⟨⟨⟨e1, e2⟩, e3⟩, e4⟩, e5⟩, c6⟩, c7⟩, c8⟩ := hc
      subst e1 e2 e3 e4 e5
      simp only [Option.map_eq_some_iff] at q
      obtain ⟨d, c1, rfl⟩ := q
      obtain ⟨g1, g2, g3⟩ := h.blt hx
      obtain ⟨cc', P, L⟩ := h.lam c7
      have gl : X.mg pLen = none := by
        unfold CC.gBlt at c6
        split at c6
        · rename_i z
          rw [h.mg]
          exact h.gt _ _ z
        · cases c6
      exact de_srl h.K h.calm g1 g3 gl (by decide +kernel) (by decide) (I.e h c1).1 (star_of ha) h.room L (lamSc_ok c8)
    · cases q
  · cases q
theorem e_succ (I : IH G C k n) {e : Expr} {c : E} (h : XOk G C k cc W X) (q : compE (n + 1) cc e = some c) : PE X e (rdE G W (ev C c)) ∧ PT X e (rdT G W fun ρ => boolR (ev C c ρ)) := by
  have q0 := q
  simp only [compE] at q
  split at q
  -- constant
  · simp only [Option.map_eq_some_iff] at q
    obtain ⟨d, c1, rfl⟩ := q
    exact plain (s_const c1) fun _ => rfl
  -- name
  · exact plain (s_name h q) fun _ => rfl
  -- tuple
  · split at q
    · rename_i hl
      simp only [Option.map_eq_some_iff] at q
      obtain ⟨d, c1, rfl⟩ := q
      exact plain (de_tup (I.es h c1).1 fun ρ ds e => by have := evs_len c1 e; unfold szl; omega) fun _ => rfl
    · cases q
  -- list
  · split at q
    · rename_i hl
      simp only [Option.map_eq_some_iff] at q
      obtain ⟨d, c1, rfl⟩ := q
      exact plain (de_lst (I.es h c1).1 fun ρ ds e => by have := evs_len c1 e; unfold szl; omega) fun _ => rfl
    · cases q
  -- operators
  · obtain ⟨o', c0, q⟩ := Option.bind_eq_some_iff.mp q
    obtain ⟨a', c1, q⟩ := Option.bind_eq_some_iff.mp q
    obtain ⟨b', c2, q⟩ := Option.bind_eq_some_iff.mp q
    cases q
    exact plain (de_op (bop_ok h.K c0) (fun _ _ _ => bin_noerr) (I.e h c1).1 (I.e h c2).1) fun _ => rfl
  · simp only [Option.map_eq_some_iff] at q
    obtain ⟨d, c1, rfl⟩ := q
    exact plain (de_neg (I.e h c1).1) fun _ => rfl
  · simp only [Option.map_eq_some_iff] at q
    obtain ⟨d, c1, rfl⟩ := q
    have A := I.e h c1
    refine ⟨PE_imp (pe_not A.1) fun σ H Q z => rd_not z, PT_imp (pt_not A.2) fun σ H Q z => rdt_not ?_⟩
    have e : (fun ρ => boolR (ev C (.not d) ρ)) = fun ρ => (boolR (ev C d ρ)).bind fun c => .ok (!c) := by
      funext ρ
      simp only [ev]
      exact bool_not
    rw [← e]
    exact z
  · have A := I.an h q
    exact ⟨(A _).1, (A _).2.pt⟩
  · have A := I.or h q
    exact ⟨(A _).1, (A _).2.pt⟩
  -- if
  · obtain ⟨o', c0, q⟩ := Option.bind_eq_some_iff.mp q
    obtain ⟨a', c1, q⟩ := Option.bind_eq_some_iff.mp q
    obtain ⟨b', c2, q⟩ := Option.bind_eq_some_iff.mp q
    cases q
    have T := I.e h c0
    have A := I.e h c1
    have B := I.e h c2
    refine ⟨PE_imp (pe_ifExp T.2 A.1 B.1) fun σ H Q z => rd_ifx z, PT_imp (pt_ifExp T.2 A.2 B.2) fun σ H Q z => rdt_ifx ?_⟩
    have e : (fun ρ => boolR (ev C (.ifx o' a' b') ρ)) = fun ρ => (boolR (ev C o' ρ)).bind fun k => if k = true then boolR (ev C a' ρ) else boolR (ev C b' ρ) := by
      funext ρ
      simp only [ev]
      exact bool_ifx
    rw [← e]
    exact z
  -- is
  · simp only [Option.map_eq_some_iff] at q
    obtain ⟨d, c1, rfl⟩ := q
    exact ⟨de_isN (I.e h c1).1, dt_isN (I.e h c1).1⟩
  · simp only [Option.map_eq_some_iff] at q
    obtain ⟨d, c1, rfl⟩ := q
    exact ⟨de_notN (I.e h c1).1, dt_notN (I.e h c1).1⟩
  · simp only [Option.map_eq_some_iff] at q
    obtain ⟨d, c1, rfl⟩ := q
    exact ⟨de_isB (I.e h c1).1, dt_isB (I.e h c1).1⟩
  · simp only [Option.map_eq_some_iff] at q
    obtain ⟨d, c1, rfl⟩ := q
    exact ⟨de_notB (I.e h c1).1, dt_notB (I.e h c1).1⟩
  -- comparisons
  · split at q
    · cases q
    · rename_i hs
      obtain ⟨o', c0, q⟩ := Option.bind_eq_some_iff.mp q
      obtain ⟨a', c1, q⟩ := Option.bind_eq_some_iff.mp q
      obtain ⟨b', c2, q⟩ := Option.bind_eq_some_iff.mp q
      cases q
      have hm := behind_of (op := ‹CmpOp›) ((Bool.not_eq_true _).mp hs)
      exact ⟨de_cmp (cop_ok h.K h.hu c0) hm (I.e h c1).1 (I.e h c2).1, dt_cmp (cop_ok h.K h.hu c0) hm (I.e h c1).1 (I.e h c2).1⟩
  · split at q
    · cases q
    · rename_i hs
      obtain ⟨o', c0, q⟩ := Option.bind_eq_some_iff.mp q
      obtain ⟨p', c3, q⟩ := Option.bind_eq_some_iff.mp q
      obtain ⟨a', c1, q⟩ := Option.bind_eq_some_iff.mp q
      obtain ⟨b', c2, q⟩ := Option.bind_eq_some_iff.mp q
      obtain ⟨d', c4, q⟩ := Option.bind_eq_some_iff.mp q
      cases q
      have hm : ∀ o p b c, isSet c = false → lastMarks [o, p] [b, c] = false := fun o p b c hc => behind_of hc
      have hs := (Bool.not_eq_true _).mp hs
      exact ⟨PE_imp (pe_chain (cop_ok h.K h.hu c0) (cop_ok h.K h.hu c3) (I.e h c1).1 (I.e h c2).1 (I.e h c4).1 (hm _ _ _ _ hs)) fun σ H Q z => rd_chain z,
        PT_imp (pt_chain (cop_ok h.K h.hu c0) (cop_ok h.K h.hu c3) (I.e h c1).1 (I.e h c2).1 (I.e h c4).1 (hm _ _ _ _ hs)) fun σ H Q z => rd_chain (rdT_bool z)⟩
  -- slices
  · simp only [Option.map_eq_some_iff] at q
    obtain ⟨d, c1, rfl⟩ := q
    exact plain (de_rev h.K (I.e h c1).1) fun _ => rfl
  · obtain ⟨a', c1, q⟩ := Option.bind_eq_some_iff.mp q
    obtain ⟨b', c2, q⟩ := Option.bind_eq_some_iff.mp q
    cases q
    exact plain (de_slA h.K (I.e h c1).1 (I.e h c2).1) fun _ => rfl
  · obtain ⟨a', c1, q⟩ := Option.bind_eq_some_iff.mp q
    obtain ⟨b', c2, q⟩ := Option.bind_eq_some_iff.mp q
    cases q
    exact plain (de_slB h.K (I.e h c1).1 (I.e h c2).1) fun _ => rfl
  · obtain ⟨a', c1, q⟩ := Option.bind_eq_some_iff.mp q
    obtain ⟨b', c2, q⟩ := Option.bind_eq_some_iff.mp q
    obtain ⟨d', c4, q⟩ := Option.bind_eq_some_iff.mp q
    cases q
    exact plain (de_slC h.K (I.e h c1).1 (I.e h c2).1 (I.e h c4).1) fun _ => rfl
  -- subscripts
  · split at q
    · cases q
    · rename_i hs
      obtain ⟨a', c1, q⟩ := Option.bind_eq_some_iff.mp q
      obtain ⟨b', c2, q⟩ := Option.bind_eq_some_iff.mp q
      cases q
      exact plain (de_ix h.K h.hu (I.e h c1).1 (I.e h c2).1 (plainIx_of ((Bool.not_eq_true _).mp hs))) fun _ => rfl
  -- calls
  · split at q
    · rename_i hg
      obtain ⟨g1, g2, g3⟩ := h.glob hg
      simp only [Option.map_eq_some_iff] at q
      obtain ⟨d, c1, rfl⟩ := q
      exact plain (s_call I h g1 g2 g3 c1) fun _ => rfl
    · rename_i hg
      have hb : ∀ y, cc.glob y = some .blt → cc.isBlt y = true := fun y e => by unfold CC.isBlt; rw [e]
      split at q
      · rename_i hx
        split at q
        · split at q
          · cases q
          · rename_i hs
            simp only [Bool.or_eq_true, not_or, Bool.not_eq_true, Bool.not_eq_eq_eq_not, Bool.not_true, Bool.not_eq_false'] at hs
            obtain ⟨t', c0, q⟩ := Option.bind_eq_some_iff.mp q
            simp only [Option.map_eq_some_iff] at q
            obtain ⟨d, c1, rfl⟩ := q
            have e := eq_of_beq hx
            subst e
            exact plain (s_isi h (hb _ hg) hs.1 (by simpa using hs.2) c0 (I.e h c1).1) fun _ => rfl
        · cases q
      · split at q
        · rename_i s' hrg
          split at q
          · rename_i hx
            cases q
            have e := eq_of_beq hx
            subst e
            obtain ⟨t1, t2, t3⟩ := h.blt (hb _ hg)
            exact plain (I.rg h hrg true _ _ t1 t3) fun _ => rfl
          · split at q
            · rename_i hx
              cases q
              have e := eq_of_beq hx
              subst e
              obtain ⟨t1, t2, t3⟩ := h.blt (hb _ hg)
              exact plain (I.rg h hrg false _ _ t1 t3) fun _ => rfl
            · cases q
        split at q
        · rename_i e' hst
          cases q
          split at hst
          · rename_i hx
            have e := eq_of_beq hx
            subst e
            obtain ⟨t1, t2, t3⟩ := h.blt (hb _ hg)
            exact plain (I.st h hst _ _ t1 t3) fun _ => rfl
          · cases hst
        obtain ⟨p', c0, q⟩ := Option.bind_eq_some_iff.mp q
        split at q
        · cases q
        · rename_i hne
          simp only [Option.map_eq_some_iff] at q
          obtain ⟨d, c1, rfl⟩ := q
          have A := I.es h c1
          exact plain (s_prim h (hb _ hg) c0 A.1 (fun a r e => by subst e; exact es_star c1) A.2 ((Bool.not_eq_true _).mp hne)) fun _ => rfl
    · cases q
  · split at q
    · cases q
    · rename_i hs
      simp only [Bool.or_eq_true, not_or, Bool.not_eq_true] at hs
      obtain ⟨f', c1, q⟩ := Option.bind_eq_some_iff.mp q
      simp only [Option.map_eq_some_iff] at q
      obtain ⟨d, c2, rfl⟩ := q
      exact plain (s_callv I h (I.e h c1).1 c2 hs.1) fun _ => rfl
  -- comprehensions
  · exact plain ((lc1_parts I h q0).pe h) fun _ => rfl
  · exact plain ((lc1f_parts I h q0).pe h) fun _ => rfl
  · exact plain ((lc2_parts I h q0).pe h) fun _ => rfl
  -- {}
  · cases q
    exact plain de_dnew fun _ => rfl
  -- sorted(.., key=..)
  · split at q
    · cases q
    · rename_i hs
      simp only [Bool.or_eq_true, not_or, Bool.not_eq_true, Bool.not_eq_true', Bool.not_eq_false] at hs
      exact plain (I.kw h q hs.1 (by simpa using hs.2) _ _ _) fun _ => rfl
  · cases q
theorem IH.all : ∀ n, IH G C k n
  | 0 => IH.zero
  | n + 1 => ⟨fun h q => e_succ (IH.all n) h q, fun h q => es_succ (IH.all n) h q, fun h q => an_succ (IH.all n) h q, fun h q => or_succ (IH.all n) h q, fun h q p pos g m => st_succ (IH.all n) h q p pos g m, fun h q a x p kp pos => kw_succ (IH.all n) h q a x p kp pos, fun h q t p pos g m => rg_succ (IH.all n) h q t p pos g m, fun h q => sr_succ (IH.all n) h q⟩
end
end SS

set_option maxRecDepth 100000
set_option maxHeartbeats 4000000
/-! SSQ: statements to the small syntax -/
namespace SS
open PySem PySem.Spec PyProof.Rows L2
def swNames (lk : Str → Option NameKind) (ts : List Expr) : List Str :=
  ts.filterMap fun e => match e with | .Name id pos => if lk id == some .local && pos.line == ((ts.head?.map (·.pos.line)).getD 0) then some id else none | _ => none
def swNone (lk : Str → Option NameKind) (ts vs : List Expr) : Bool :=
  (!(ts.length == 2 || ts.length == 3) || vs.length != ts.length) || vs.any isStar || ((swNames lk ts).length != ts.length || (swNames lk ts).eraseDups.length != (swNames lk ts).length) || vs.all (foldedForSure 8)
theorem isStar_eq : (fun x : Expr => match x with | .Starred .. => true | _ => false) = isStar := by
  funext x
  cases x <;> rfl
theorem sw_none {ts vs : List Expr} {k k2 : Nat} {p p2 : Pos} {env : PySem.Env} (hk : env.blockKind = .function) (h : swNone env.kindOf ts vs = true) : swappedStores [.Tuple ts k p] (.Tuple vs k2 p2) env = pure none := by
  unfold swappedStores
  simp only [isStar_eq, hk, bne_self_eq_false, Bool.or_false]
  show (if _ then _ else _) = _
  split
  · rfl
  · rename_i h1
    show (if _ then _ else _) = _
    split
    · rfl
    · rename_i h2
      show (if _ then _ else _) = _
      split
      · rfl
      · rename_i h3
        show (if _ then _ else _) = _
        split
        · rfl
        · rename_i h4
          exfalso
          unfold swNone at h
          simp only [Bool.or_eq_true] at h
          rcases h with ((h | h) | h) | h
          · exact h1 (by simpa [Bool.or_eq_true] using h)
          · exact h2 h
          · exact h3 (by rw [Bool.or_eq_true]; exact h)
          · exact h4 h
theorem sw_some {ts vs : List Expr} {k k2 : Nat} {p p2 : Pos} {env : PySem.Env} (hk : env.blockKind = .function) (h : swNone env.kindOf ts vs = false) (h2 : vs.all (constantsAlone 8) = false) : swappedStores [.Tuple ts k p] (.Tuple vs k2 p2) env = pure (some (swNames env.kindOf ts)) := by
  unfold swNone at h
  simp only [Bool.or_eq_false_iff] at h
  obtain ⟨⟨⟨⟨a1, a2⟩, a3⟩, ⟨a4, a5⟩⟩, a6⟩ := h
  unfold swappedStores
  simp only [isStar_eq, hk, bne_self_eq_false, Bool.or_false]
  refine (if_neg (fun q => ?_)).trans ?_
  · rw [a1, a2] at q; cases q
  refine (if_neg (fun q => ?_)).trans ?_
  · exact Bool.false_ne_true (a3.symm.trans q)
  refine (if_neg (fun q => ?_)).trans ?_
  · rw [Bool.or_eq_true] at q
    rcases q with q | q
    · exact Bool.false_ne_true (a4.symm.trans q)
    · exact Bool.false_ne_true (a5.symm.trans q)
  refine (if_neg (fun q => ?_)).trans ?_
  · exact Bool.false_ne_true (a6.symm.trans q)
  refine (if_neg (fun q => ?_)).trans ?_
  · exact Bool.false_ne_true (h2.symm.trans q)
  rfl

mutual
/-- slot i is read -/
def usesE (i : Nat) : E → Bool
  | .var j => i == j
  | .cst _ => false
  | .tup es => usesEs i es
  | .lst es => usesEs i es
  | .bin _ a b => usesE i a || usesE i b
  | .neg a => usesE i a
  | .cmp _ a b => usesE i a || usesE i b
  | .chain _ _ a b c => usesE i a || usesE i b || usesE i c
  | .isc _ _ a => usesE i a
  | .and a b => usesE i a || usesE i b
  | .or a b => usesE i a || usesE i b
  | .not a => usesE i a
  | .ifx c a b => usesE i c || usesE i a || usesE i b
  | .ix a b => usesE i a || usesE i b
  | .slA a b => usesE i a || usesE i b
  | .slB a b => usesE i a || usesE i b
  | .slC a b c => usesE i a || usesE i b || usesE i c
  | .call _ es => usesEs i es
  | .callv f es => usesE i f || usesEs i es
  | .prim _ es => usesEs i es
  | .rng _ s => usesSr i s
  | .srs e => usesE i e
  | .srl e => usesE i e
  | .dnew => false
  | .rev e => usesE i e
  | .comp e _ s _ => usesE i e || usesSr i s
  | .compf e _ s t _ => usesE i e || usesSr i s || usesE i t
  | .comp2 e _ s _ s1 _ _ => usesE i e || usesSr i s || usesSr i s1
def usesEs (i : Nat) : Es → Bool
  | .nil => false
  | .cons e es => usesE i e || usesEs i es
def usesSr (i : Nat) : Sr → Bool
  | .seq e => usesE i e
  | .rg1 e => usesE i e
  | .rg2 a b => usesE i a || usesE i b
  | .zip a b => usesE i a || usesE i b
  | .enum a => usesE i a
end
def pAppend : Str := "append"
def pExtend : Str := "extend"
def pRemove : Str := "remove"
def pIndex : Str := "index"
/-- the flags that a suite asks -/
def compIs (cc : CC) (x : Str) : List Expr → Option (List Nat)
  | [] => some []
  | .Call (.Name f _) [.Name y _, .Name c _] [] _ :: es =>
    if f == pIsI && cc.isBlt f && y == x then (match cc.glob c with
      | some (.cls d) => if d < cc.nc then (compIs cc x es).map (d :: ·) else none
      | _ => none) else none
  | _ => none
def compLB (cc : CC) (x : Str) (env : List (Nat × List Nat)) : Nat → Expr → Option (List Nat)
  | 0, _ => none
  | n + 1, .List es _ => (compIs cc x es).bind fun ds => if ds.length ≤ 1000 then some ds else none
  | n + 1, .BinOp a .Add b _ => (compLB cc x env n a).bind fun xs => (compLB cc x env n b).bind fun ys => if xs.length + ys.length ≤ 1000 then some (xs ++ ys) else none
  | n + 1, .Name f _ => (cc.slot f).bind fun k => env.lookup k
  | _, _ => none
def isCall : Expr → Bool | .Call _ _ _ _ => true | _ => false
def compSu (cc : CC) (x : Str) (i : Nat) : List (Nat × List Nat) → List Stmt → Option (List Nat)
  | env, [.Return (some (.Call (.Attribute e m apos) [.Constant (.bool true) _ _] [] cpos)) _] => if m == pIndex && apos.endLine == cpos.line && !isCall e then compLB cc x env 50 e else none
  | env, .Assign [.Name f _] e _ :: rest => if isCompE e then none else (cc.tslot f).bind fun k => if k == i || !decide (k < cc.N.length) then none else
      (compLB cc x env 50 e).bind fun cs => compSu cc x i ((k, cs) :: env.filter fun p => p.1 != k) rest
  | _, _ => none
mutual
def compS : Nat → CC → List Nat → Stmt → Option S
  | 0, _, _, _ => none
  | n + 1, cc, M, st => match st with
    | .Assign [.Name x _] e _ => (cc.tslot x).bind fun i => (compE n cc e).bind fun c => some (.set i (M.contains i) c (M.filter fun m => usesE m c))
    | .Assign [.Tuple [.Name x px, .Name y py] kt pt] (.Tuple [a, b] k2 p2) _ =>
      if swNone (fun x => List.lookup x cc.sc.names) [.Name x px, .Name y py] [a, b] then
        (compTg n cc (.Tuple [.Name x px, .Name y py] kt pt)).bind fun tg => (compE n cc (.Tuple [a, b] k2 p2)).bind fun c => some (.unp tg c (M.filter fun m => usesE m c))
      else if [a, b].all (constantsAlone 8) || isStar a || isStar b then none else
        (cc.tslot x).bind fun i => (cc.tslot y).bind fun j => if i == j || !(cc.sc.names.lookup x == some .local) || !(cc.sc.names.lookup y == some .local) then none else
          (compE n cc a).bind fun a => (compE n cc b).bind fun b =>
            let ms := M.filter fun m => usesE m a || usesE m b
            if ms.all (fun m => decide (m < cc.N.length)) then some (.par2 cc.N.length i j (M.contains i) (M.contains j) a b ms) else none
    | .Assign [.Tuple [.Name x px, .Name y py, .Name z pz] kt pt] (.Tuple [a, b, c] k2 p2) _ =>
      if swNone (fun x => List.lookup x cc.sc.names) [.Name x px, .Name y py, .Name z pz] [a, b, c] then
        (compTg n cc (.Tuple [.Name x px, .Name y py, .Name z pz] kt pt)).bind fun tg => (compE n cc (.Tuple [a, b, c] k2 p2)).bind fun c => some (.unp tg c (M.filter fun m => usesE m c))
      else if [a, b, c].all (constantsAlone 8) || isStar a || isStar b || isStar c then none else
        (cc.tslot x).bind fun i => (cc.tslot y).bind fun j => (cc.tslot z).bind fun l => if i == j || i == l || j == l || !(cc.sc.names.lookup x == some .local) || !(cc.sc.names.lookup y == some .local) || !(cc.sc.names.lookup z == some .local) then none else
          (compE n cc a).bind fun a => (compE n cc b).bind fun b => (compE n cc c).bind fun c =>
            let ms := M.filter fun m => usesE m a || usesE m b || usesE m c
            if ms.all (fun m => decide (m < cc.N.length)) then some (.par3 cc.N.length i j l (M.contains i) (M.contains j) (M.contains l) a b c ms) else none
    | .Assign [.Tuple ts k p] (.Tuple vs k2 p2) _ =>
      if swNone (fun x => List.lookup x cc.sc.names) ts vs then
        (compTg n cc (.Tuple ts k p)).bind fun tg => (compE n cc (.Tuple vs k2 p2)).bind fun c => some (.unp tg c (M.filter fun m => usesE m c))
      else none
    | .Assign [.Tuple ts k p] e _ => (compTg n cc (.Tuple ts k p)).bind fun tg => (compE n cc e).bind fun c => some (.unp tg c (M.filter fun m => usesE m c))
    | .Assign [.Subscript (.Name x _) k _] e _ => if isCompE e then none else
      (cc.slot x).bind fun i => (compE n cc e).bind fun c => (compE n cc k).bind fun q => some (.put i q c (M.filter fun m => usesE m c))
    | .Expr (.Call (.Attribute (.Name x _) m apos) [e] [] cpos) _ =>
      if !(apos.endLine == cpos.line) || isStar e then none else
      (cc.slot x).bind fun i => (compE n cc e).bind fun c =>
        if m == pAppend then some (.app i c (M.filter fun m => usesE m c)) else if m == pExtend then some (.ext i c (M.filter fun m => usesE m c)) else if m == pRemove then some (.rem i c) else none
    | .Expr e _ => if isCompE e then none else (compE n cc e).map .drop
    | .Return none _ => some .retN
    | .Return (some (.Name x p)) _ => match cc.slot x with
      | some i => some (.retV i)
      | none => (compE n cc (.Name x p)).map .ret
    | .Return (some e) _ => (compE n cc e).map .ret
    | .Pass _ => some .pass
    | .If c a b _ => (compE n cc c).bind fun c => (compSs n cc M a).bind fun a => (compSs n cc M b).bind fun b => some (.ife c a b)
    | .For tg iter body [] _ => if isSet iter then none else (compTg n cc tg).bind fun tg' => (compSr n cc tg iter).bind fun src => (compSs n cc M body).bind fun b => some (.forr tg' src (M.filter fun m => usesSr m src) b)
    | .While c body [] _ => (compE n cc c).bind fun c => (compSs n cc M body).bind fun b => some (.whl c b)
    | .Raise (some (.Call (.Name x _) [.Constant (.str _) _ _] [] _)) none _ => match cc.glob x with
      | some (.cls c) => if c < cc.nc then some (.raise c) else none
      | _ => none
    | .Try body [.ExceptHandler (some (.Name x _)) (some nm) (b₀ :: suite) _] [] [] _ => match cc.glob x with
      | some (.cls c) => if c == cc.nc && cc.tr && cc.isBlt pIsI then (match cc.slot nm with
          | some i => if cc.sc.names.lookup nm == some .local then (compSs n cc M body).bind fun b => (compSu cc nm i [] (b₀ :: suite)).bind fun cs => if cs.all (fun c => decide (c < cc.nc)) then some (.tryI b i cs) else none else none
          | none => none) else none
      | _ => none
    | _ => none
def compSs : Nat → CC → List Nat → List Stmt → Option Ss
  | 0, _, _, _ => none
  | _ + 1, _, _, [] => some .nil
  | n + 1, cc, M, s :: r => (compS n cc M s).bind fun s => (compSs n cc M r).bind fun r => some (.cons s r)
end
end SS

set_option maxRecDepth 100000
set_option maxHeartbeats 4000000
/-! SSR: the small syntax tells what the text does: statements -/
namespace SS
open PySem PySem.Spec PyProof.Rows L2
structure StOk (G : Gb) (C : Orc) (k : Nat) (cc : CC) (W : WX) (X : Cx) : Prop where
  x : XOk G C k cc W X
  kind : cc.sc.kind = .function
  st : X.stack = X.env :: X.outer
  fr : X.env.frame = some X.env.locals
  cl : ∀ c, c < cc.nc → ClOk G c
  cs : cc.tr = true → CsOk G cc.nc (G.ca cc.nc)
theorem sw_plain {e : Expr} {tg : Option Expr} {line : Nat} {env : PySem.Env} (h : isCompE e = false) : swapsWith e tg line env = pure false := by
  cases e <;> first | rfl | simp [isCompE] at h
theorem sw_comp {elt : Expr} {gens : List Comprehension} {scope : Scope} {pos p : Pos} {x : Str} {line : Nat} {env : PySem.Env} : ∃ b, swapsWith (.ListComp elt gens scope pos) (some (.Name x p)) line env = pure b ∧ (b = true → env.kindOf x = some .local) := by
  refine ⟨_, rfl, fun h => ?_⟩
  simp only [Bool.and_eq_true, beq_iff_eq] at h
  exact h.1.1.2
theorem sole_tup {ts : List Expr} {k : Nat} {p : Pos} {e : Expr} {line : Nat} {env : PySem.Env} : swapsWithSole [.Tuple ts k p] e line env = pure false := by
  cases e <;> rfl
def isTup : Expr → Bool | .Tuple _ _ _ => true | _ => false
theorem sw_not {ts : List Expr} {k : Nat} {p : Pos} {e : Expr} {env : PySem.Env} (h : isTup e = false) : swappedStores [.Tuple ts k p] e env = pure none := by
  cases e <;> first | rfl | simp [isTup] at h
theorem comp_cases {n : Nat} {cc : CC} {e : Expr} {c : E} (q : compE n cc e = some c) (hc : isCompE e = true) :
    (∃ m elt tg iter scope pos, n = m + 1 ∧ e = .ListComp elt [⟨tg, iter, [], 0⟩] scope pos) ∨ (∃ m elt tg iter test scope pos, n = m + 1 ∧ e = .ListComp elt [⟨tg, iter, [test], 0⟩] scope pos) ∨
      ∃ m elt tg iter tg1 iter1 scope pos, n = m + 1 ∧ e = .ListComp elt [⟨tg, iter, [], 0⟩, ⟨tg1, iter1, [], 0⟩] scope pos := by
  cases n with
  | zero => simp [compE] at q
  | succ n =>
    simp only [compE] at q
    split at q <;> first
      | (exact .inl ⟨_, _, _, _, _, _, rfl, rfl⟩)
      | (exact .inr (.inl ⟨_, _, _, _, _, _, _, rfl, rfl⟩))
      | (exact .inr (.inr ⟨_, _, _, _, _, _, _, _, rfl, rfl⟩))
      | (simp [isCompE] at hc; done)
      | cases q
section
variable {G : Gb} {C : Orc} {k n : Nat} {cc : CC} {W : WX} {X : Cx}
theorem StOk.kindOf (h : StOk G C k cc W X) : X.env.kindOf = fun x => cc.sc.names.lookup x := by
  funext x
  unfold Env.kindOf
  rw [h.x.sc]
theorem StOk.bk (h : StOk G C k cc W X) : X.env.blockKind = .function := by
  unfold Env.blockKind
  rw [h.x.sc, h.kind]
  rfl
theorem lk_mem {α β : Type} [BEq α] [LawfulBEq α] {a : α} {b : β} : ∀ {l : List (α × β)}, l.lookup a = some b → (a, b) ∈ l
  | [], h => by simp at h
  | (x, y) :: r, h => by
    rw [List.lookup_cons] at h
    split at h
    · rename_i e
      have : a = x := by simpa using e
      subst this
      cases h
      exact List.mem_cons_self
    · exact List.mem_cons_of_mem _ (lk_mem h)
theorem is_ok (h : XOk G C k cc W X) {x : Str} {i : Nat} : ∀ {es : List Expr} {ds : List Nat}, compIs cc x es = some ds → IsL X i x cc.nc G.ca es ds
  | [], ds, q => by
    simp [compIs] at q
    subst q
    exact .nil
  | .Call (.Name f _) [.Name y _, .Name c _] [] _ :: es, ds, q => by
    simp only [compIs] at q
    split at q
    · rename_i hx
      simp only [Bool.and_eq_true, beq_iff_eq] at hx
      obtain ⟨⟨rfl, hb⟩, rfl⟩ := hx
      split at q
      · rename_i d hg
        split at q
        · rename_i hd
          simp only [Option.map_eq_some_iff] at q
          obtain ⟨r, c1, rfl⟩ := q
          obtain ⟨g1, g2, g3⟩ := h.glob hg
          exact .cons hd g1 (by rw [h.mg]; exact g3) g2 (is_ok h c1)
        · cases q
      · cases q
    · cases q
  | e :: es, ds, q => by
    unfold compIs at q
    split at q
    · rename_i h1; cases h1
    · rename_i f p1 y p2 c p3 pos es' h1
      cases h1
      split at q
      · rename_i hx
        simp only [Bool.and_eq_true, beq_iff_eq] at hx
        obtain ⟨⟨rfl, hb⟩, rfl⟩ := hx
        split at q
        · rename_i d hg
          split at q
          · rename_i hd
            simp only [Option.map_eq_some_iff] at q
            obtain ⟨r, c1, rfl⟩ := q
            obtain ⟨g1, g2, g3⟩ := h.glob hg
            exact .cons hd g1 (by rw [h.mg]; exact g3) g2 (is_ok h c1)
          · cases q
        · cases q
      · cases q
    · cases q
theorem lb_ok (h : XOk G C k cc W X) (K : CsOk G cc.nc (G.ca cc.nc)) {x : Str} {i : Nat} (hs : cc.slot x = some i) (hI : cc.isBlt pIsI = true) {a : Addr} {oe : Obj} {pn : List (Addr × Obj)} {c : Nat} (hc : c < cc.nc) (hz : Zc (.ref (G.ca c)) none oe) (hf : ∃ vs, oe.data = .fields vs) {env : List (Nat × List Nat)} :
    ∀ {n : Nat} {e : Expr} {cs : List Nat}, compLB cc x env n e = some cs → PE (suX X a oe pn) e (rdLB G i a c env cs)
  | 0, e, cs, q => by simp [compLB] at q
  | n + 1, e, cs, q => by
    obtain ⟨s1, s2, s3, s4⟩ := h.slot hs
    obtain ⟨b1, b2, b3⟩ := h.blt hI
    unfold compLB at q
    split at q
    · rename_i h1; cases h1
    · rename_i h1
      cases h1
      obtain ⟨ds, c1, q⟩ := Option.bind_eq_some_iff.mp q
      split at q
      · rename_i hl
        cases q
        exact su_disp h.g K hc hz hf s1 s2 s3 s4 b1 b3 (is_ok h c1) hl
      · cases q
    · rename_i h1
      cases h1
      obtain ⟨xs, c1, q⟩ := Option.bind_eq_some_iff.mp q
      obtain ⟨ys, c2, q⟩ := Option.bind_eq_some_iff.mp q
      split at q
      · rename_i hl
        cases q
        exact su_cat (lb_ok h K hs hI hc hz hf c1) (lb_ok h K hs hI hc hz hf c2) hl
      · cases q
    · rename_i h1
      cases h1
      obtain ⟨j, c1, q⟩ := Option.bind_eq_some_iff.mp q
      obtain ⟨t1, t2, t3, t4⟩ := h.slot c1
      exact su_name t1 t2 t3 t4 (lk_mem q)
    · cases q
theorem attr_base {e : Expr} {m : Str} {env : PySem.Env} {w : Sem Value} (h : isCall e = false) : attributeBase e m env w = w := by
  cases e <;> first | rfl | simp [isCall] at h
theorem su_ok (h : XOk G C k cc W X) (K : CsOk G cc.nc (G.ca cc.nc)) {x : Str} {i : Nat} (hs : cc.slot x = some i) (hI : cc.isBlt pIsI = true) {a : Addr} {oe : Obj} {pn : List (Addr × Obj)} {c : Nat} (hc : c < cc.nc) (hz : Zc (.ref (G.ca c)) none oe) (hf : ∃ vs, oe.data = .fields vs) :
    ∀ {sts : List Stmt} {env : List (Nat × List Nat)} {cs : List Nat}, compSu cc x i env sts = some cs → PSs (suX X a oe pn) sts (fun D σ H => σ.length = X.N.length ∧ rdIx G i a c env cs D σ H)
  | [], env, cs, q => by
    unfold compSu at q
    cases q
  | st :: rest, env, cs, q => by
    unfold compSu at q
    split at q
    · rename_i h1
      cases h1
      split at q
      · rename_i hx
        simp only [Bool.and_eq_true, Bool.not_eq_true'] at hx
        obtain ⟨⟨hm, hl⟩, hcl⟩ := hx
        have e := eq_of_beq hm
        subst e
        exact PSs_imp (pss_one (su_ret (lb_ok h K hs hI hc hz hf q) (attr_base hcl) hl)) fun D σ H z => z.2
      · cases q
    · rename_i h1
      cases h1
      split at q
      · cases q
      · rename_i hcm
        obtain ⟨j, c1, q⟩ := Option.bind_eq_some_iff.mp q
        split at q
        · cases q
        · rename_i hj
          simp only [Bool.or_eq_true, not_or, Bool.not_eq_true', decide_eq_false_iff_not, Decidable.not_not] at hj
          obtain ⟨xs, c2, q⟩ := Option.bind_eq_some_iff.mp q
          obtain ⟨t1, t2, t3⟩ := h.tslot c1
          exact su_set h.nd t1 t2 t3 (fun e => hj.1 (by simp [e])) (by rw [h.N]; exact hj.2) (lb_ok h K hs hI hc hz hf c2) (sw_plain ((Bool.not_eq_true _).mp hcm)) (su_ok h K hs hI hc hz hf q)
    · cases q
structure SI (G : Gb) (C : Orc) (k n : Nat) : Prop where
  s : ∀ {cc : CC} {M : List Nat} {W : WX} {X : Cx} {st : Stmt} {c : S}, StOk G C k cc W X → compS n cc M st = some c → PS X st (rdX G W (ex C c))
  ss : ∀ {cc : CC} {M : List Nat} {W : WX} {X : Cx} {st : List Stmt} {c : Ss}, StOk G C k cc W X → compSs n cc M st = some c → PSs X st (rdX G W (exs C c))
variable {M : List Nat}
theorem s_set (h : StOk G C k cc W X) {x : Str} {p pos : Pos} {e : Expr} {i : Nat} {c : E} {ow : Bool} {ms : List Nat} (c1 : cc.tslot x = some i) (c2 : compE n cc e = some c) : PS X (.Assign [.Name x p] e pos) (rdX G W (ex C (.set i ow c ms))) := by
  obtain ⟨t1, t2, t3⟩ := h.x.tslot c1
  have A := (IH.all n).e h.x c2
  by_cases hc : isCompE e = true
  · have D := comp_cases c2 hc
    have two : ∀ b, swapsWith e (some (.Name x p)) pos.line X.env = pure b → b = false → PS X (.Assign [.Name x p] e pos) (rdX G W (ex C (.set i ow c ms))) := fun b hb e0 => by
      subst e0
      exact ds_set h.x.nd t1 t2 t3 A.1 hb
    rcases D with ⟨m, elt, tg, iter, scope, ps, rfl, rfl⟩ | ⟨m, elt, tg, iter, test, scope, ps, rfl, rfl⟩ | ⟨m, elt, tg, iter, tg1, iter1, scope, ps, rfl, rfl⟩
    · obtain ⟨b, hb, hbt⟩ := sw_comp (elt := elt) (gens := [⟨tg, iter, [], 0⟩]) (scope := scope) (pos := ps) (p := p) (x := x) (line := pos.line) (env := X.env)
      cases b with
      | false => exact two _ hb rfl
      | true =>
        obtain ⟨own, fs, tg, ft, fe, tt, e, htt, hts, hi, ok, hg, ht, he, hs⟩ := (lc1_parts (IH.all m) h.x c2).ex
        have q := ds_setc (G := G) (W := W) (ow := ow) (ms := ms) htt hts h.x.calm h.x.nd t1 (hbt rfl) hb hi ok hg ht he hs
        rw [← e] at q
        exact q
    · obtain ⟨b, hb, hbt⟩ := sw_comp (elt := elt) (gens := [⟨tg, iter, [test], 0⟩]) (scope := scope) (pos := ps) (p := p) (x := x) (line := pos.line) (env := X.env)
      cases b with
      | false => exact two _ hb rfl
      | true =>
        obtain ⟨own, fs, tg, ft, fe, tt, e, htt, hts, hi, ok, hg, ht, he, hs⟩ := (lc1f_parts (IH.all m) h.x c2).ex
        have q := ds_setc (G := G) (W := W) (ow := ow) (ms := ms) htt hts h.x.calm h.x.nd t1 (hbt rfl) hb hi ok hg ht he hs
        rw [← e] at q
        exact q
    · obtain ⟨b, hb, hbt⟩ := sw_comp (elt := elt) (gens := [⟨tg, iter, [], 0⟩, ⟨tg1, iter1, [], 0⟩]) (scope := scope) (pos := ps) (p := p) (x := x) (line := pos.line) (env := X.env)
      cases b with
      | false => exact two _ hb rfl
      | true =>
        obtain ⟨own, own1, fs, fs1, tg, tg1, fe, e, hts, hts1, hv, hi, ok, hg, hi1, hg1, he, hs, hs1⟩ := (lc2_parts (IH.all m) h.x c2).ex
        have q := ds_setc2 (G := G) (W := W) (ow := ow) (ms := ms) hts hts1 hv h.x.calm h.x.nd t1 (hbt rfl) hb hi ok hg hi1 hg1 he hs hs1
        rw [← e] at q
        exact q
  · exact ds_set h.x.nd t1 t2 t3 A.1 (sw_plain ((Bool.not_eq_true _).mp hc))
theorem s_unp (h : StOk G C k cc W X) {ts : List Expr} {kk : Nat} {p pos : Pos} {e : Expr} {tg : Tg} {c : E} {ms : List Nat} (c1 : compTg n cc (.Tuple ts kk p) = some tg) (c2 : compE n cc e = some c) (hw : swappedStores [.Tuple ts kk p] e X.env = pure none) :
    PS X (.Assign [.Tuple ts kk p] e pos) (rdX G W (ex C (.unp tg c ms))) :=
  ds_unp ((IH.all n).e h.x c2).1 (tg_ok h.x c1).2 sole_tup hw rfl
theorem names2 {lk : Str → Option NameKind} {x y : Str} {px py : Pos} {vs : List Expr} (h : swNone lk [.Name x px, .Name y py] vs = false) : swNames lk [.Name x px, .Name y py] = [x, y] := by
  unfold swNone at h
  simp only [Bool.or_eq_false_iff] at h
  have q := h.1.2.1
  unfold swNames at q ⊢
  simp only [List.filterMap_cons, List.filterMap_nil] at q ⊢
  split at q <;> rename_i e1 <;> split at q <;> rename_i e2 <;> simp at q
  · split at e1 <;> cases e1
    split at e2 <;> cases e2
    rfl
theorem names3 {lk : Str → Option NameKind} {x y z : Str} {px py pz : Pos} {vs : List Expr} (h : swNone lk [.Name x px, .Name y py, .Name z pz] vs = false) : swNames lk [.Name x px, .Name y py, .Name z pz] = [x, y, z] := by
  unfold swNone at h
  simp only [Bool.or_eq_false_iff] at h
  have q := h.1.2.1
  unfold swNames at q ⊢
  simp only [List.filterMap_cons, List.filterMap_nil] at q ⊢
  split at q <;> rename_i e1 <;> split at q <;> rename_i e2 <;> split at q <;> rename_i e3 <;> simp at q
  · split at e1 <;> cases e1
    split at e2 <;> cases e2
    split at e3 <;> cases e3
    rfl
theorem StOk.tr (h : StOk G C k cc W X) {W' : WX} {pn : List (Addr × Obj)} {xe : Value → Shared → Prop} (tk : Takes (X.tr pn xe) W') (po : PassesOwn (model X.prog X.w) X.A X.env xe) : StOk G C k cc W' (X.tr pn xe) where
  x := { g := ⟨h.x.g.prog, h.x.g.w, h.x.g.K, h.x.g.mg, h.x.g.base⟩, N := h.x.N, nd := h.x.nd, sc := h.x.sc, fn := h.x.fn, calm := h.x.calm, room := h.x.room, tk := tk, po := po, gt := h.x.gt, F := h.x.F, lam := fun z => let ⟨c, P, L⟩ := h.x.lam z; ⟨c, P, ⟨L.tb, L.code, L.mem, L.uq⟩⟩ }
  kind := h.kind
  st := h.st
  fr := h.fr
  cl := h.cl
  cs := h.cs
theorem sw2 (h : StOk G C k cc W X) {x y : Str} {px py pt p2 : Pos} {kt k2 : Nat} {a b : Expr} (hw : swNone (fun x => List.lookup x cc.sc.names) [.Name x px, .Name y py] [a, b] = false) (hc : [a, b].all (constantsAlone 8) = false) :
    swappedStores [.Tuple [.Name x px, .Name y py] kt pt] (.Tuple [a, b] k2 p2) X.env = pure (some [x, y]) := by
  have W2 := sw_some (k := kt) (k2 := k2) (p := pt) (p2 := p2) (ts := [.Name x px, .Name y py]) (vs := [a, b]) h.bk (by rw [h.kindOf]; exact hw) hc
  rw [h.kindOf, names2 hw] at W2
  exact W2
theorem sw3 (h : StOk G C k cc W X) {x y z : Str} {px py pz pt p2 : Pos} {kt k2 : Nat} {a b c : Expr} (hw : swNone (fun x => List.lookup x cc.sc.names) [.Name x px, .Name y py, .Name z pz] [a, b, c] = false) (hc : [a, b, c].all (constantsAlone 8) = false) :
    swappedStores [.Tuple [.Name x px, .Name y py, .Name z pz] kt pt] (.Tuple [a, b, c] k2 p2) X.env = pure (some [x, y, z]) := by
  have W2 := sw_some (k := kt) (k2 := k2) (p := pt) (p2 := p2) (ts := [.Name x px, .Name y py, .Name z pz]) (vs := [a, b, c]) h.bk (by rw [h.kindOf]; exact hw) hc
  rw [h.kindOf, names3 hw] at W2
  exact W2
theorem all_lt {l : List Nat} {n : Nat} (h : l.all (fun m => decide (m < n)) = true) : ∀ m ∈ l, m < n := fun m hm => by
  rw [List.all_eq_true] at h
  simpa using h m hm
theorem s_par2 (J : IH G C k n) (h : StOk G C k cc W X) {x y : Str} {px py pt p2 pos : Pos} {kt k2 : Nat} {a b : Expr} (hw : swNone (fun x => List.lookup x cc.sc.names) [.Name x px, .Name y py] [a, b] = false) (hc : [a, b].all (constantsAlone 8) = false) (sa : isStar a = false) (sb : isStar b = false)
    {i j : Nat} {oi oj : Bool} (c1 : cc.tslot x = some i) (c2 : cc.tslot y = some j) (h1 : ¬ i = j) (h2 : List.lookup x cc.sc.names = some .local) (h3 : List.lookup y cc.sc.names = some .local) {a' b' : E} (c3 : compE n cc a = some a') (c4 : compE n cc b = some b') {ms : List Nat} (hm : ms.all (fun m => decide (m < cc.N.length)) = true) :
    PS X (.Assign [.Tuple [.Name x px, .Name y py] kt pt] (.Tuple [a, b] k2 p2) pos) (rdX G W (ex C (.par2 cc.N.length i j oi oj a' b' ms))) := by
  have R := ds_par2 (G := G) (W := W) (X := X) (kt := kt) (pt := pt) (k2 := k2) (pt2 := p2) (pos := pos) (oi := oi) (oj := oj) h.x.calm h.x.nd (h.x.tslot c1).1 (h.x.tslot c2).1 h1 (by rw [h.x.sc]; exact h2) (by rw [h.x.sc]; exact h3) (J.e h.x c3).1 (J.e h.x c4).1 (ms := ms) (by rw [h.x.N]; exact all_lt hm) (sw2 h hw hc) sole_tup (star_of sb) (star_of sa)
  rw [h.x.N] at R
  exact R
theorem s_par3 (J : IH G C k n) (h : StOk G C k cc W X) {x y z : Str} {px py pz pt p2 pos : Pos} {kt k2 : Nat} {a b c : Expr} (hw : swNone (fun x => List.lookup x cc.sc.names) [.Name x px, .Name y py, .Name z pz] [a, b, c] = false) (hc : [a, b, c].all (constantsAlone 8) = false) (sa : isStar a = false) (sb : isStar b = false) (sc : isStar c = false)
    {i j l : Nat} {oi oj ol : Bool} (c1 : cc.tslot x = some i) (c2 : cc.tslot y = some j) (c5 : cc.tslot z = some l) (h1 : ¬ i = j) (h2 : ¬ i = l) (h3 : ¬ j = l) (h4 : List.lookup x cc.sc.names = some .local) (h5 : List.lookup y cc.sc.names = some .local) (h6 : List.lookup z cc.sc.names = some .local)
    {a' b' d' : E} (c3 : compE n cc a = some a') (c4 : compE n cc b = some b') (c6 : compE n cc c = some d') {ms : List Nat} (hm : ms.all (fun m => decide (m < cc.N.length)) = true) :
    PS X (.Assign [.Tuple [.Name x px, .Name y py, .Name z pz] kt pt] (.Tuple [a, b, c] k2 p2) pos) (rdX G W (ex C (.par3 cc.N.length i j l oi oj ol a' b' d' ms))) := by
  have R := ds_par3 (G := G) (W := W) (X := X) (kt := kt) (pt := pt) (k2 := k2) (pt2 := p2) (pos := pos) (oi := oi) (oj := oj) (ol := ol) h.x.calm h.x.nd (h.x.tslot c1).1 (h.x.tslot c2).1 (h.x.tslot c5).1 h1 h2 h3 (by rw [h.x.sc]; exact h4) (by rw [h.x.sc]; exact h5) (by rw [h.x.sc]; exact h6) (J.e h.x c3).1 (J.e h.x c4).1 (J.e h.x c6).1 (ms := ms) (by rw [h.x.N]; exact all_lt hm) (sw3 h hw hc) sole_tup (star_of sc) (star_of sb) (star_of sa)
  rw [h.x.N] at R
  exact R
theorem s_succ (I : SI G C k n) {st : Stmt} {c : S} (h : StOk G C k cc W X) (q : compS (n + 1) cc M st = some c) : PS X st (rdX G W (ex C c)) := by
  have J : IH G C k n := IH.all n
  simp only [compS] at q
  split at q
  -- name = e
  · obtain ⟨i, c1, q⟩ := Option.bind_eq_some_iff.mp q
    obtain ⟨d, c2, q⟩ := Option.bind_eq_some_iff.mp q
    cases q
    exact s_set h c1 c2
  -- x, y = a, b
  · split at q
    · rename_i hw
      obtain ⟨tg, c1, q⟩ := Option.bind_eq_some_iff.mp q
      obtain ⟨d, c2, q⟩ := Option.bind_eq_some_iff.mp q
      cases q
      exact s_unp h c1 c2 (sw_none h.bk (by rw [h.kindOf]; exact hw))
    · rename_i hw
      have hw := (Bool.not_eq_true _).mp hw
      split at q
      · cases q
      · rename_i hv
        simp only [Bool.or_eq_true, not_or, Bool.not_eq_true] at hv
        obtain ⟨i, c1, q⟩ := Option.bind_eq_some_iff.mp q
        obtain ⟨j, c2, q⟩ := Option.bind_eq_some_iff.mp q
        split at q
        · cases q
        · rename_i hij
          simp only [Bool.or_eq_true, not_or, Bool.not_eq_true', beq_iff_eq, beq_eq_false_iff_ne, ne_eq, Decidable.not_not] at hij
          obtain ⟨⟨h1, h2⟩, h3⟩ := hij
          obtain ⟨a', c3, q⟩ := Option.bind_eq_some_iff.mp q
          obtain ⟨b', c4, q⟩ := Option.bind_eq_some_iff.mp q
          split at q
          · rename_i hm
            cases q
            exact s_par2 J h hw hv.1.1 hv.1.2 hv.2 c1 c2 h1 h2 h3 c3 c4 hm
          · cases q
  · split at q
    · rename_i hw
      obtain ⟨tg, c1, q⟩ := Option.bind_eq_some_iff.mp q
      obtain ⟨d, c2, q⟩ := Option.bind_eq_some_iff.mp q
      cases q
      exact s_unp h c1 c2 (sw_none h.bk (by rw [h.kindOf]; exact hw))
    · rename_i hw
      have hw := (Bool.not_eq_true _).mp hw
      split at q
      · cases q
      · rename_i hv
        simp only [Bool.or_eq_true, not_or, Bool.not_eq_true] at hv
        obtain ⟨i, c1, q⟩ := Option.bind_eq_some_iff.mp q
        obtain ⟨j, c2, q⟩ := Option.bind_eq_some_iff.mp q
        obtain ⟨l, c5, q⟩ := Option.bind_eq_some_iff.mp q
        split at q
        · cases q
        · rename_i hij
          simp only [Bool.or_eq_true, not_or, Bool.not_eq_true', beq_iff_eq, beq_eq_false_iff_ne, ne_eq, Decidable.not_not] at hij
          obtain ⟨⟨⟨⟨⟨h1, h2⟩, h3⟩, h4⟩, h5⟩, h6⟩ := hij
          obtain ⟨a', c3, q⟩ := Option.bind_eq_some_iff.mp q
          obtain ⟨b', c4, q⟩ := Option.bind_eq_some_iff.mp q
          obtain ⟨d', c6, q⟩ := Option.bind_eq_some_iff.mp q
          split at q
          · rename_i hm
            cases q
            exact s_par3 J h hw hv.1.1.1 hv.1.1.2 hv.1.2 hv.2 c1 c2 c5 h1 h2 h3 h4 h5 h6 c3 c4 c6 hm
          · cases q
  · split at q
    · rename_i hw
      obtain ⟨tg, c1, q⟩ := Option.bind_eq_some_iff.mp q
      obtain ⟨d, c2, q⟩ := Option.bind_eq_some_iff.mp q
      cases q
      exact s_unp h c1 c2 (sw_none h.bk (by rw [h.kindOf]; exact hw))
    · cases q
  · rename_i hne
    obtain ⟨tg, c1, q⟩ := Option.bind_eq_some_iff.mp q
    obtain ⟨d, c2, q⟩ := Option.bind_eq_some_iff.mp q
    cases q
    refine s_unp h c1 c2 (sw_not ?_)
    cases e : isTup _ with
    | false => rfl
    | true =>
      exfalso
      unfold isTup at e
      split at e
      · exact hne _ _ _ rfl
      · cases e
  -- d[k] = e
  · split at q
    · cases q
    · rename_i hl
      obtain ⟨i, c1, q⟩ := Option.bind_eq_some_iff.mp q
      obtain ⟨d, c2, q⟩ := Option.bind_eq_some_iff.mp q
      obtain ⟨a', c3, q⟩ := Option.bind_eq_some_iff.mp q
      cases q
      obtain ⟨t1, t2, t3, t4⟩ := h.x.slot c1
      exact ds_put h.x.hu t1 t2 t3 t4 (J.e h.x c2).1 (J.e h.x c3).1 (sw_plain ((Bool.not_eq_true _).mp hl))
  -- methods
  · split at q
    · cases q
    · rename_i hl
      simp only [Bool.or_eq_true, not_or, Bool.not_eq_true, Bool.not_eq_eq_eq_not, Bool.not_true, Bool.not_eq_false'] at hl
      obtain ⟨i, c1, q⟩ := Option.bind_eq_some_iff.mp q
      obtain ⟨d, c2, q⟩ := Option.bind_eq_some_iff.mp q
      obtain ⟨t1, t2, t3, t4⟩ := h.x.slot c1
      have hl1 : _ = true := Bool.of_not_eq_false hl.1
      split at q
      · rename_i hm
        cases q
        have e := eq_of_beq hm
        subst e
        exact ds_app t1 t2 t3 t4 (J.e h.x c2).1 hl1 (star_of hl.2)
      · split at q
        · rename_i hm
          cases q
          have e := eq_of_beq hm
          subst e
          exact ds_ext t1 t2 t3 t4 (J.e h.x c2).1 hl1 (star_of hl.2)
        · split at q
          · rename_i hm
            cases q
            have e := eq_of_beq hm
            subst e
            exact ds_rem t1 t2 t3 t4 (J.e h.x c2).1 hl1 (star_of hl.2)
          · cases q
  · split at q
    · cases q
    · rename_i hc
      simp only [Option.map_eq_some_iff] at q
      obtain ⟨d, c1, rfl⟩ := q
      exact ds_drop (J.e h.x c1).1 (sw_plain ((Bool.not_eq_true _).mp hc))
  -- return
  · cases q
    exact ds_retN
  · split at q
    · rename_i i c1
      cases q
      obtain ⟨t1, t2, t3, t4⟩ := h.x.slot c1
      exact ds_retV t1 t2 t3 t4
    · simp only [Option.map_eq_some_iff] at q
      obtain ⟨d, c1, rfl⟩ := q
      exact ds_ret (J.e h.x c1).1
  · simp only [Option.map_eq_some_iff] at q
    obtain ⟨d, c1, rfl⟩ := q
    exact ds_ret (J.e h.x c1).1
  · cases q
    exact ds_pass
  -- if, for, while
  · obtain ⟨d, c1, q⟩ := Option.bind_eq_some_iff.mp q
    obtain ⟨a', c2, q⟩ := Option.bind_eq_some_iff.mp q
    obtain ⟨b', c3, q⟩ := Option.bind_eq_some_iff.mp q
    cases q
    exact ds_if (J.e h.x c1).2 (I.ss h c2) (I.ss h c3)
  · split at q
    · cases q
    · rename_i hs
      obtain ⟨tg, c1, q⟩ := Option.bind_eq_some_iff.mp q
      obtain ⟨src, c2, q⟩ := Option.bind_eq_some_iff.mp q
      obtain ⟨b', c3, q⟩ := Option.bind_eq_some_iff.mp q
      cases q
      exact ds_for h.x.po h.x.calm (J.sr h.x c2) (tg_ok h.x c1).2 (I.ss h c3) (folded_of ((Bool.not_eq_true _).mp hs))
  · obtain ⟨d, c1, q⟩ := Option.bind_eq_some_iff.mp q
    obtain ⟨b', c3, q⟩ := Option.bind_eq_some_iff.mp q
    cases q
    exact ds_while h.x.po (J.e h.x c1).2 (I.ss h c3)
  -- raise
  · split at q
    · rename_i c0 hg
      split at q
      · rename_i hlt
        cases q
        obtain ⟨g1, g2, g3⟩ := h.x.glob hg
        exact ds_raise h.x.g h.x.calm h.x.tk (h.cl _ hlt) g3 g1 g2
      · cases q
    · cases q
  -- try
  · split at q
    · rename_i c0 hg
      split at q
      · rename_i ht
        simp only [Bool.and_eq_true, beq_iff_eq] at ht
        obtain ⟨⟨h1, h2⟩, h3⟩ := ht
        split at q
        · rename_i i hs
          split at q
          · rename_i hloc
            obtain ⟨b', c1, q⟩ := Option.bind_eq_some_iff.mp q
            obtain ⟨cs, c2, q⟩ := Option.bind_eq_some_iff.mp q
            split at q
            · rename_i hcs
              cases q
              obtain ⟨g1, g2, g3⟩ := h.x.glob hg
              subst h1
              have K := h.cs h2
              refine ds_try h.x.g K h.st h.fr h.x.nd (h.x.slot hs).1 (by rw [h.kindOf]; exact eq_of_beq hloc) ⟨g1, g2, .inl (by rw [h.x.mg]; exact g3)⟩ h.x.tk (all_lt hcs) (fun W' pn xe tk po => I.ss (h.tr tk po) c1) fun a oe pn c hc hz hf => su_ok h.x K hs h3 hc hz hf c2
            · cases q
          · cases q
        · cases q
      · cases q
    · cases q
  · cases q
theorem ss_succ (I : SI G C k n) {st : List Stmt} {c : Ss} (h : StOk G C k cc W X) (q : compSs (n + 1) cc M st = some c) : PSs X st (rdX G W (exs C c)) := by
  match st, q with
  | [], q =>
    simp [compSs] at q
    subst q
    exact dss_nil
  | s :: r, q =>
    simp only [compSs] at q
    obtain ⟨a', c1, q⟩ := Option.bind_eq_some_iff.mp q
    obtain ⟨b', c2, q⟩ := Option.bind_eq_some_iff.mp q
    cases q
    exact dss_cons (I.s h c1) (I.ss h c2)
theorem SI.all : ∀ n, SI G C k n
  | 0 => ⟨fun _ q => by simp [compS] at q, fun _ q => by simp [compSs] at q⟩
  | n + 1 => ⟨fun h q => s_succ (SI.all n) h q, fun h q => ss_succ (SI.all n) h q⟩
end
end SS

set_option maxRecDepth 100000
set_option maxHeartbeats 4000000
/-! SSS: the defs, the head -/
namespace SS
open PySem PySem.Spec PyProof.Rows L2
structure FT where
  nm : Str
  st : Stmt
  N : List Str
  ps : List Str
  M : List Nat
  lam : Bool := false
  deriving Inhabited
structure HD where
  gt : List (Str × GV)
  nc : Nat
  tr : Bool
def HD.cc (h : HD) (f : FT) : CC := { gt := h.gt, N := f.N, sc := defScope f.st, fnb := fun _ => true, nc := h.nc, tr := h.tr, lam := f.lam }
def scB (N P : List Str) (sc : Scope) : Bool :=
  decide (sc.kind = .function) && !sc.isCoroutine && !sc.isGenerator && decide N.Nodup && decide (N.take P.length = P) && P.all (fun x => decide (sc.names.lookup x = some .local) || decide (sc.names.lookup x = some .cell)) && sc.names.all (fun y => !decide (y.2 = .free))
theorem scB_ok {N P : List Str} {sc : Scope} (h : scB N P sc = true) : FnScope N P sc := by
  unfold scB at h
  simp only [Bool.and_eq_true, Bool.not_eq_true', decide_eq_true_eq, List.all_eq_true, Bool.or_eq_true, decide_eq_false_iff_not] at h
  obtain ⟨⟨⟨⟨⟨⟨h1, h2⟩, h3⟩, h4⟩, h5⟩, h6⟩, h7⟩ := h
  exact ⟨h1, h2, h3, h4, h5, h6, h7⟩
def compF (h : HD) (f : FT) : Option Fn :=
  if scB f.N f.ps (defScope f.st) then (compSs 300 (h.cc f) f.M (defBody f.st)).map fun b => { ar := f.ps.length, ns := f.N.length, body := b } else none
/-- what the written part says of the classes -/
structure ClF (K : PySem.W.Frag) (C : Addr) : Prop where
  ex : PySem.W.excIn K C veT "ValueError.__new__" = true
  kp : PySem.W.keepIn K (.ref C) = true
  sb : PySem.W.subIn K (.ref C) (.type "BaseException") = some true
  ty : PySem.W.typeIn K (.ref C) = some (.type "type")
  ic : PySem.W.isClsIn K C = true
structure ClE (K : PySem.W.Frag) (C : Addr) : Prop where
  hg : PySem.W.findIn K (.ref C) "__getattribute__" = some (some (.builtin "BaseException.__getattribute__"))
  hk : PySem.W.findIn K (.ref C) "__getattr__" = some none
  hd : PySem.W.hasDictIn K C = true
  ha : PySem.W.findIn K (.ref C) "__class__" = some (some (.builtin "object.__class__"))
  hn : PySem.W.specialIn K (.builtin "object.__class__") "__get__" = some (some (.builtin "getset_descriptor.__get__"))
  ht : PySem.W.takesIn K (.builtin "object.__class__") = some true
  hm : PySem.W.mroIn K C (.type "object") = some true
theorem ClF.ok {G : Gb} {c : Nat} (h : ClF G.K (G.ca c)) : ClOk G c := ⟨h.ex, h.kp, h.sb, h.ty⟩
theorem kit_of {K : PySem.W.Frag} {t : Value} {D : Addr} {b : Bool} (h : ClF K D) (e : PySem.W.subIn K t (.ref D) = some b) : PySem.W.kitCls K t (.ref D) = some b := by
  have e2 : ((PySem.W.clsIn K D).isSome && PySem.W.typeIn K (.ref D) == some (.type "type")) = true := by
    have h2' : (PySem.W.clsIn K D).isSome = true := h.ic
    rw [h2', h.ty] <;> rfl
  show (if ((PySem.W.clsIn K D).isSome && PySem.W.typeIn K (.ref D) == some (.type "type")) = true then PySem.W.subIn K t (.ref D) else none) = some b
  rw [if_pos e2]
  exact e
theorem csOk_of {G : Gb} {nc : Nat} (h1 : ∀ c, c ≤ nc → ClF G.K (G.ca c)) (h2 : ∀ c, c < nc → ClE G.K (G.ca c)) (h3 : ∀ c d, c < nc → d < nc → c ≠ d → PySem.W.subIn G.K (.ref (G.ca c)) (.ref (G.ca d)) = some false) (h4 : ∀ c, c < nc → PySem.W.subIn G.K (.ref (G.ca c)) (.ref (G.ca nc)) = some true)
    (h5 : ∀ c d, c < nc → d < nc → c ≠ d → (Value.ref (G.ca c) == Value.ref (G.ca d)) = false) : CsOk G nc (G.ca nc) where
  cl := fun c hc => (h1 c (Nat.le_of_lt hc)).ok
  ex := fun c hc => let e := h2 c hc; let f := h1 c (Nat.le_of_lt hc); ⟨e.hg, e.hk, f.sb, e.hd, e.ha, e.hn, e.ht, e.hm⟩
  ki := fun c d hc hd => by
    unfold PySem.W.kitOne
    by_cases e : c = d
    · subst e
      rw [if_pos (beq_self_eq_true _), decide_eq_true rfl]
    · rw [if_neg (by rw [h5 c d hc hd e]; decide), kit_of (h1 d (Nat.le_of_lt hd)) (h3 c d hc hd e), decide_eq_false e]
  we := fun c hc => by
    have f := h1 nc (Nat.le_refl _)
    unfold PySem.W.exmOne
    rw [if_pos (by rw [f.sb]; rfl)]
    exact kit_of f (h4 c hc)
/-- the tables -/
structure TbOk (G : Gb) (h : HD) (tb : List FT) (fs : List Fn) : Prop where
  pos : 0 < tb.length
  comp : tb.map (compF h) = fs.map some
  fn : ∀ i, i < tb.length → Fun G.K (tb.getD i default).nm (tb.getD i default).nm (tb.getD i default).st (G.fa i) (G.fd i) ∧ Binds G.K (G.fd i) (tb.getD i default).ps [] ∧ G.ps i = (tb.getD i default).ps
  hi : ∀ i, tb.length ≤ i → G.fa i = G.fa 0 ∧ G.fd i = G.fd 0 ∧ G.ps i = G.ps 0
  gt : ∀ x v, h.gt.lookup x = some v → GvOk G x v
  cl : ∀ c, c < h.nc → ClOk G c
  cs : h.tr = true → CsOk G h.nc (G.ca h.nc)
  lm : ∀ i, (tb.getD i default).lam = true → ∃ c P, (G.fd i).code = .ref c ∧ LamX.TabB G.base G.mg c P ∧ (P, (tb.getD i default).nm ++ ".<locals>." ++ "<lambda>") ∈ G.tabs ∧ ∀ p ∈ G.tabs, p.1 = P → p.2 = (tb.getD i default).nm ++ ".<locals>." ++ "<lambda>"
/-- a def, its code object told -/
theorem okC {P : Program} {w : World} {K : PySem.W.Frag} {mg : Str → Option Value} {base : Heap} {x qual : Str} {st : Stmt} {f : Addr} {fd : FuncData} {N ps : List Str} {k : Nat} {sp : Sp} (F : Fun K x qual st f fd) (S : FnScope N ps (defScope st)) (len : ∀ vs H Q E, sp vs H Q E → vs.length = ps.length)
    (b : ∀ (cdv : Value), fd.code = cdv → ∀ (A : Around) (outer : List PySem.Env) (s : Shared) (H : Hp) (vs : List V) (Q : VK) (E : XK), Room k (A.deeper (envOfC qual (defScope st) s.heap.objs.size f cdv)) → sp vs H Q E →
      ∃ t, PSs (cxOf (L2.CX P w) P w K mg base N qual (defScope st) f cdv A outer s H E) (defBody st) t ∧ t { nx := fun _ H' => Q .non H', rt := Q } (L2.start N vs) H) : FnOk P w K mg base (L2.CX P w) (k + 1) f fd ps sp := by
  obtain ⟨_, _, _, _, _, _, cdv, _, _, e, lk, hcd⟩ := F.ex
  subst e
  exact fn_of lk hcd S len (b cdv rfl)
section
variable {G : Gb} {h : HD} {tb : List FT} {fs : List Fn}
theorem TbOk.len (T : TbOk G h tb fs) : tb.length = fs.length := by
  have := congrArg List.length T.comp
  simpa using this
theorem TbOk.at (T : TbOk G h tb fs) {i : Nat} (hi : i < tb.length) : ∃ f, fs[i]? = some f ∧ compF h (tb.getD i default) = some f := by
  have e := congrArg (fun l => l[i]?) T.comp
  simp only [List.getElem?_map] at e
  have h2 : i < fs.length := by rw [← T.len]; exact hi
  rw [List.getElem?_eq_getElem hi, List.getElem?_eq_getElem h2] at e
  simp only [Option.map_some, Option.some.injEq] at e
  refine ⟨fs[i], List.getElem?_eq_getElem h2, ?_⟩
  rw [List.getD_eq_getElem?_getD, List.getElem?_eq_getElem hi]
  exact e
theorem start_len {N : List Str} {vs : List V} (hl : vs.length ≤ N.length) : (L2.start N vs).length = N.length := by
  unfold L2.start
  rw [List.length_append, List.length_map, List.length_replicate]
  omega
theorem slots_start {H : Hp} {O : Addr → Prop} {ds : List D} {vs : List V} {N : List Str} (hb : Bnd G O H) (r : DenL G H O ds vs) : SlR G H O (ds.map (fun d => some (false, d)) ++ List.replicate (N.length - ds.length) none) (fun _ => 0) (L2.start N vs) H := by
  have at_ : ∀ (i : Nat) (o : Bool) (d : D), (ds.map (fun d => some (false, d)) ++ List.replicate (N.length - ds.length) none)[i]? = some (some (o, d)) → o = false ∧ ds[i]? = some d ∧ i < ds.length := fun i o d e => by
    by_cases hi : i < ds.length
    · rw [List.getElem?_append_left (by simpa using hi), List.getElem?_map] at e
      cases q : ds[i]? with
      | none => rw [q] at e; cases e
      | some x =>
        rw [q] at e
        simp at e
        exact ⟨e.1, by rw [e.2], hi⟩
    · rw [List.getElem?_append_right (by simpa using hi), List.getElem?_replicate] at e
      split at e <;> cases e
  have no : ∀ a, ¬ Own (ds.map (fun d => some (false, d)) ++ List.replicate (N.length - ds.length) none) (fun _ => 0) a := fun a ⟨i, d, e, _⟩ => by
    have := (at_ i true d e).1
    cases this
  refine ⟨Same.refl _, hb, ?_, fun i d e => ?_, fun i j d e h1 h2 q => ?_, fun i d e => ?_⟩
  · unfold L2.start
    rw [List.length_append, List.length_map, List.length_replicate, List.length_append, List.length_map, List.length_replicate, r.length]
  · have := (at_ i true d e).1
    cases this
  · have := (at_ i true d h1).1
    cases this
  · obtain ⟨_, h2, h3⟩ := at_ i false d e
    obtain ⟨v, g1, g2⟩ := r.get h2
    refine ⟨v, ?_, g2.tr ⟨fun _ _ e => e, fun _ _ _ e => e, fun c ys _ e n => ⟨e, fun z => ?_⟩⟩⟩
    · unfold L2.start
      rw [List.getElem?_append_left (by rw [List.length_map, ← r.length]; exact h3), List.getElem?_map, g1]
      rfl
    · rcases z with z | z
      · exact n z
      · exact no _ z
theorem vac {C : Orc} {k i : Nat} (hC : ∀ ds, C i ds = .bad) : FnOk G.P G.w G.K G.mg G.base (L2.CX G.P G.w) k (G.fa i) (G.fd i) (G.ps i) (spOf G C i) where
  len := fun vs H Q E ⟨h, _⟩ => h
  run := fun A outer s H args us vs Q E _ _ _ _ ⟨_, O, ds, _, _, z⟩ => by
    rw [hC] at z
    exact False.elim z
theorem runF_ar {C : Orc} {f : Fn} {ds : List D} (h : runF C f ds ≠ .bad) : ds.length = f.ar := by
  unfold runF at h
  split at h
  · assumption
  · exact absurd rfl h
theorem fok_all (T : TbOk G h tb fs) : ∀ n i, FOk G (call fs n) n i := by
  have info : ∀ i, Binds G.K (G.fd i) (G.ps i) [] ∧ PySem.W.keepIn G.K (.ref (G.fa i)) = true := fun i => by
    by_cases hi : i < tb.length
    · obtain ⟨f1, f2, f3⟩ := T.fn i hi
      rw [f3]
      exact ⟨f2, f1.kp⟩
    · obtain ⟨e1, e2, e3⟩ := T.hi i (by omega)
      obtain ⟨f1, f2, f3⟩ := T.fn 0 T.pos
      rw [e1, e2, e3, f3]
      exact ⟨f2, f1.kp⟩
  intro n
  induction n with
  | zero => exact fun i => ⟨vac fun _ => rfl, (info i).1, (info i).2, fun ds e => absurd rfl e⟩
  | succ n ih =>
    intro i
    by_cases hi : i < tb.length
    · obtain ⟨f, e1, e2⟩ := T.at hi
      obtain ⟨F, B, eps⟩ := T.fn i hi
      have ec : ∀ ds, call fs (n + 1) i ds = runF (call fs n) f ds := fun ds => by
        show (match fs[i]? with | some fn => runF (call fs n) fn ds | none => .bad) = _
        rw [e1]
      unfold compF at e2
      split at e2
      · rename_i hs
        simp only [Option.map_eq_some_iff] at e2
        obtain ⟨b, c1, rfl⟩ := e2
        have S := scB_ok hs
        refine ⟨?_, (info i).1, (info i).2, fun ds e => ?_⟩
        · rw [eps]
          refine okC F S (fun vs H Q E ⟨h, _⟩ => by rw [← eps]; exact h) fun cdv ecd A outer s H vs Q E hr hsp => ?_
          obtain ⟨hl, O, ds, hb, dd, z⟩ := hsp
          rw [eps] at hl
          refine ⟨rdX G (fun cls d _ H => E cls d H) (exs (call fs n) b), ?_, ?_⟩
          · refine (SI.all (G := G) (C := call fs n) (k := n) 300).ss (cc := h.cc (tb.getD i default)) ?_ c1
            exact
              { x := { g := ⟨rfl, rfl, rfl, rfl, rfl⟩, N := rfl, nd := S.nd, sc := rfl, fn := rfl, calm := rfl, room := hr, tk := takes_of rfl rfl rfl rfl, po := passes_of rfl, gt := T.gt, F := ih, lam := fun z => (let ⟨c, P, z1, z2, z3, z4⟩ := T.lm i z; ⟨c, P, ⟨z2, ecd.symm.trans z1, z3, z4⟩⟩) }
                kind := S.kind, st := rfl, fr := rfl, cl := T.cl, cs := T.cs }
          · refine ⟨_, H, O, ⟨_, slots_start hb dd⟩, ?_⟩
            rw [ec] at z
            unfold runF at z
            rw [if_pos (show ds.length = (tb.getD i default).ps.length by rw [dd.length]; exact hl)] at z
            revert z
            show (match (match exs (call fs n) b (ds.map (fun d => some (false, d)) ++ List.replicate ((tb.getD i default).N.length - ds.length) none) with | .nx _ => R.ok (D.non, false) | .ret d => .ok d | .err c _ => .err c | .bad => .bad : R DB) with
              | .ok db => ∀ v H', Same G H H' → Res G H H' O db v → Q v H' | .err c => ∀ H', Same G H H' → E (.ref (G.ca c)) none H' | .bad => False) → kO G (fun cls d _ H => E cls d H) H O { nx := fun _ H' => Q .non H', rt := Q } (exs (call fs n) b (ds.map (fun d => some (false, d)) ++ List.replicate ((tb.getD i default).N.length - ds.length) none))
            generalize exs (call fs n) b (ds.map (fun d => some (false, d)) ++ List.replicate ((tb.getD i default).N.length - ds.length) none) = o
            intro z
            cases o with
            | nx δ => exact fun σ H' ⟨A, S⟩ => z .non H' S.same (Res.of .non)
            | ret db => exact fun v H' s r => z v H' s r
            | err c δ => exact fun σ H' ⟨A, S⟩ => z H' S.same
            | bad => exact z
        · rw [ec] at e
          rw [runF_ar e, eps]
      · cases e2
    · have hC : ∀ ds, call fs (n + 1) i ds = .bad := fun ds => by
        show (match fs[i]? with | some fn => runF (call fs n) fn ds | none => .bad) = _
        rw [List.getElem?_eq_none (by rw [← T.len]; omega)]
      exact ⟨vac hC, (info i).1, (info i).2, fun ds e => absurd (hC ds) e⟩
/-- the law -/
def spLaw (K : PySem.W.Frag) (T : List (Addr × Str)) : Sp := fun vs H Q _ => ∃ (a : Addr) (ns : List Int), vs = [.ref a] ∧ SqL K H a (ns.map V.int) ∧ LamX.Tabs T H ∧ ns.length ≤ 63 ∧ (∀ z ∈ ns, Builtin.Int.intBits z ≤ 1048576) ∧ ∀ H', Q (.bl true) H'
theorem law_fn {C : Orc} {k i : Nat} (F : FOk G C k i) (hp : (G.ps i).length = 1) (L : ∀ ns : List Int, ns.length ≤ 63 → (∀ z ∈ ns, Builtin.Int.intBits z ≤ 1048576) → C i [.scr ns] = .ok (.bl true, false)) :
    FnOk G.P G.w G.K G.mg G.base (L2.CX G.P G.w) k (G.fa i) (G.fd i) (G.ps i) (spLaw G.K G.tabs) :=
  F.ok.imp fun vs H Q E ⟨a, ns, e, hS, hT, hl, hb, q⟩ => by
    subst e
    refine ⟨hp.symm, fun _ => False, [.scr ns], ⟨fun _ z => z.elim, hT⟩, .cons (.scr ((sq_cases hS).symm.imp_right fun z => ⟨z, fun q => q⟩)) .nil, ?_⟩
    rw [L ns hl hb]
    intro v H' s r
    unfold Res at r
    rw [if_neg (by simp)] at r
    cases r
    exact q H'
theorem only_sq {K : PySem.W.Frag} {H : Hp} {a : Addr} {xs : List V} (hO : Only H) (h : SqL K H a xs) : SqF K H a xs := by
  rcases sq_cases h with q | q
  · rcases hO a with z | ⟨o, ys, z⟩
    · rw [z] at q; cases q
    · rw [z] at q; cases q
  · exact q
theorem cx_no {P : Program} {w : World} {H : Hp} {s : Shared} {e : Value} {s' : Shared} (h : L2.CX P w [] H s (fun _ _ _ => False) e s') : False := by
  obtain ⟨_, _, _, _, _, _, _, _, _, _, _, _, z⟩ := h
  exact z
end
end SS
namespace SS
open PySem PySem.Spec PyProof.Rows L2
theorem lam_no {tb : List FT} (h : tb.all (fun f => !f.lam) = true) {i : Nat} (z : (tb.getD i default).lam = true) : False := by
  rw [List.getD_eq_getElem?_getD] at z
  cases e : tb[i]? with
  | none => rw [e] at z; cases z
  | some f =>
    rw [e] at z
    have := List.all_eq_true.mp h f (List.mem_of_getElem? e)
    have z : f.lam = true := z
    rw [z] at this
    cases this
theorem lam_at {tb : List FT} {L : List Nat} (h : (List.range tb.length).all (fun i => !(tb.getD i default).lam || L.contains i) = true) {i : Nat} (z : (tb.getD i default).lam = true) : i ∈ L := by
  by_cases hi : i < tb.length
  · have := List.all_eq_true.mp h i (List.mem_range.mpr hi)
    rw [z] at this
    simpa using this
  · rw [List.getD_eq_getElem?_getD, List.getElem?_eq_none (by omega)] at z
    cases z
/-- what the head tells of the defs' code objects -/
def CodesOf (q : Program) (mg : Str → Option Value) (h : Heap) : Prop :=
  ∀ d ∈ recsOf q, ∃ (a : Addr) (o : Obj) (fd : FuncData) (c P : Addr), mg d.name = some (.ref a) ∧ h.get? a = some o ∧ o.data = .func fd ∧ fd.code = .ref c ∧ h.IsCode c P #[] ∧ h.TableAt c P #[]
theorem code_at {q : Program} {mg : Str → Option Value} {h : Heap} {K : PySem.W.Frag} {x : Str} {a : Addr} {o : Obj} {fd : FuncData} {c P : Addr} {oc : Value} {od : Option Addr} {vs : Array Value} {sl : Array (Option Value)} (C : CodesOf q mg h) (X : K.In h) (hm : mg x = some (.ref a)) (hq : ((recsOf q).map (·.name)).contains x = true) (lk : K.lookup a = some o) (hd : o.data = .func fd) (hc : fd.code = .ref c)
    (lc : K.lookup c = some ⟨oc, od, .fields vs, sl⟩) (h11 : vs[11]? = some (.ref P)) : PySem.W.CodeHd h c P ∧ h.get? P = some { cls := .none, data := .fields #[] } := by
  rw [List.contains_iff_mem, List.mem_map] at hq
  obtain ⟨d, hd1, hd2⟩ := hq
  obtain ⟨a', o', fd', c', P', e1, e2, e3, e4, e5, e6⟩ := C d hd1
  rw [hd2, hm] at e1
  cases e1
  rw [X _ _ lk] at e2
  cases e2
  rw [hd] at e3
  cases e3
  rw [hc] at e4
  cases e4
  have H := PySem.W.CodeHd.of e5 e6
  obtain ⟨oo, ws, _, _, _, _, _, _, _, g1, _, g2, g3, _⟩ := id H
  rw [X _ _ lc] at g1
  cases g1
  cases g2
  rw [h11] at g3
  cases g3
  exact ⟨H, e6.2⟩
/-- the end, the tables told -/
theorem walk_tab {l : PySem.W.OpenLaw} {n k : Nat} {q : Program} {loose : List Str} {XP : (Str → Option Value) → Heap → Prop} {YP : World → Heap → Prop} {d : DefRec} {K : Params → PySem.W.Frag} {CX : World → CXT} {x : Str}
    (hn : l.most = some n) (hz : n ≤ sizeLine) (hd : d.params.defaults = []) (room : Room k callerA) (hY : ∀ (w : World) (h : Heap), YP w h → (K w.params).In h)
    (F : ∀ (w : World) (mg : Str → Option Value) (fa : Addr) (h : Heap), (K w.params).In h → h.Ns mainGlobals mg → CodesOf q mg h → mg d.name = some (.ref fa) → LamX.LawAtS l w (K w.params) (CX w) k n x mg fa h)
    (hC : ∀ (w : World) (H : Hp) (s : Shared) (e : Value) (s' : Shared), CX w [] H s (fun _ _ _ => False) e s' → False) : PySem.W.WalkO q loose XP YP l.row.toRowW d [] (fun f vs => PySem.call f vs) :=
  Att.attach_callB hn hd fun w s0 s1 mg mb fa o pm cd doc a vs ns G Y ho hod hcd hmg hob hin hle hbi hge =>
    let ⟨_, _, _, t1, t2, t3, t4, t5, t6⟩ := F w mg fa _ (hY w _ Y) G.T.g G.T.tab hmg
    LamX.law_callTs (hY w _ Y) G.T.g G.T.b G.T.builtins G.T.nolimit hge t1 t2 t3 G.T.bmain hob hin (Nat.le_trans hle hz) room t6 t4 (fun H h1 h2 => t5 H a ns hle hbi h1 h2) fun H e s' => hC w H s1 e s'
end SS
namespace SS
open PySem PySem.Spec PyProof.Rows L2
def GtAll (G : Gb) : List (Str × GV) → Prop
  | [] => True
  | (x, v) :: r => GvOk G x v ∧ GtAll G r
theorem gt_of {G : Gb} : ∀ {l : List (Str × GV)}, GtAll G l → ∀ x v, l.lookup x = some v → GvOk G x v
  | [], _, x, v, h => by simp at h
  | (y, u) :: r, ⟨h1, h2⟩, x, v, h => by
    rw [List.lookup_cons] at h
    split at h
    · rename_i e
      have e := eq_of_beq e
      subst e
      cases h
      exact h1
    · exact gt_of h2 x v h
end SS

set_option maxRecDepth 100000
set_option maxHeartbeats 4000000
/-! SST: to reckon with the interpreter -/
namespace SS
open PySem PySem.Spec L2
section
variable (C : Orc)
def andK (b : E) (ρ : Ev) (c : Bool) : R DB := if c = true then (boolR (ev C b ρ)).bind fun d => .ok (.bl d, false) else .ok (.bl false, false)
def orK (b : E) (ρ : Ev) (c : Bool) : R DB := if c = true then .ok (.bl true, false) else (boolR (ev C b ρ)).bind fun d => .ok (.bl d, false)
def ixK (a b : E) (ρ : Ev) (c : Bool) : R DB := if c = true then ev C a ρ else ev C b ρ
def chK (p : Cop) (y : DB) (c : E) (ρ : Ev) (k : Bool) : R DB := if k = true then (ev C c ρ).bind fun z => (cmpD p y.1 z.1).bind fun l => .ok (.bl l, false) else .ok (.bl false, false)
def cvK (es : Es) (ρ : Ev) (g : DB) : R DB := match g.1 with | .fn i => (evs C es ρ).bind fun ds => C i ds | _ => .bad
def cmpT (elt : E) (tg : Tg) (own : List Nat) (ρ : Ev) (x : D) : R (Option D) := match bindTg tg x (wipeE ρ own) with
      | some ρ' => (ev C elt ρ').bind fun y => .ok (some y.1)
      | none => .bad
def cmpK (elt : E) (tg : Tg) (own : List Nat) (ρ : Ev) (xs : List D) : R DB := noErr ((compL (cmpT C elt tg own ρ) xs).bind fun ys => .ok (.lst ys, true))
def cmfT (elt : E) (tg : Tg) (test : E) (own : List Nat) (ρ : Ev) (x : D) : R (Option D) := match bindTg tg x (wipeE ρ own) with
      | some ρ' => (boolR (ev C test ρ')).bind fun c => if c = true then (ev C elt ρ').bind fun y => .ok (some y.1) else .ok none
      | none => .bad
def cmfK (elt : E) (tg : Tg) (test : E) (own : List Nat) (ρ : Ev) (xs : List D) : R DB := noErr ((compL (cmfT C elt tg test own ρ) xs).bind fun ys => .ok (.lst ys, true))
def cm2T (elt : E) (tg : Tg) (tg1 : Tg) (src1 : Sr) (own own1 : List Nat) (ρ : Ev) (x : D) : R (List D) := match bindTg tg x (wipeE ρ own) with
      | some ρ' => (evSr C src1 ρ').bind fun ys => compL (fun y => match bindTg tg1 y (wipeE ρ' own1) with
        | some ρ2 => (ev C elt ρ2).bind fun z => .ok (some z.1)
        | none => .bad) ys
      | none => .bad
def cm2K (elt : E) (tg : Tg) (tg1 : Tg) (src1 : Sr) (own own1 : List Nat) (ρ : Ev) (xs : List D) : R DB := noErr ((catL (cm2T C elt tg tg1 src1 own own1 ρ) xs).bind fun zs => okIf (decide (zs.length ≤ szl)) (.lst zs, true))
def ifK (a b : Ss) (δ : Sl) (k : Bool) : Out := if k = true then exs C a δ else exs C b δ
def forS (tg : Tg) (body : Ss) : List D → Sl → Out := forL fun x δ => match bindS tg x δ with | some δ' => exs C body δ' | none => .bad
def forK (tg : Tg) (ms : List Nat) (body : Ss) (δ : Sl) (xs : List D) : Out := forS C tg body xs (if ms.isEmpty then δ else frz ms δ)
def whS (c : E) (body : Ss) : Nat → Sl → Out := whileL (fun δ => boolR (ev C c (viewA δ))) (fun δ => exs C body δ)
def rvK (o : Option (Option (Bool × D))) : Out := match o with | some (some (ow, d)) => .ret (d, ow) | _ => .bad
def varK (o : Option (Option D)) : R DB := match o with | some (some d) => .ok (d, false) | _ => .bad
def unpK (o : Option Sl) : Out := match o with | some δ' => .nx δ' | none => .bad
def ownK (b : Bool) (o : Out) : Out := if b = true then o else .bad
def lenK (a b : Nat) (o : Out) : Out := if a = b then o else .bad
def seqK (x : DB) : R (List D) := sqD x.1
def zipK (x y : DB) : R (List D) := match x.1, y.1 with | .lst xs, .lst ys => .ok (zipD xs ys) | .tup xs, .tup ys => .ok (zipD xs ys) | _, _ => .bad
def enuK (x : DB) : R (List D) := match x.1 with | .lst xs => .ok (enumD 0 xs) | .tup xs => .ok (enumD 0 xs) | _ => .bad
def negK (x : DB) : R DB := match x.1 with | .int i => .ok (.int (-i), false) | _ => .bad
def iscK (p : Bool) (o : Option Bool) : R DB := match o with | some b => .ok (.bl (if p then b else !b), false) | none => .bad
variable (ρ : Ev) (δ : Sl)
theorem ev_var (i : Nat) : ev C (.var i) ρ = varK ρ[i]? := id rfl
theorem ev_cst (d : D) : ev C (.cst d) ρ = .ok (d, false) := id rfl
theorem ev_tup (es : Es) : ev C (.tup es) ρ = (evs C es ρ).bind fun ds => .ok (.tup ds, false) := id rfl
theorem ev_lst (es : Es) : ev C (.lst es) ρ = (evs C es ρ).bind fun ds => .ok (.lst ds, true) := id rfl
theorem ev_bin (o : Bop) (a b : E) : ev C (.bin o a b) ρ = (ev C a ρ).bind fun x => (ev C b ρ).bind fun y => binD o x.1 y.1 := id rfl
theorem ev_neg (a : E) : ev C (.neg a) ρ = (ev C a ρ).bind negK := id rfl
theorem ev_cmp (o : Cop) (a b : E) : ev C (.cmp o a b) ρ = (ev C a ρ).bind fun x => (ev C b ρ).bind fun y => (cmpD o x.1 y.1).bind fun c => .ok (.bl c, false) := id rfl
theorem ev_chain (o p : Cop) (a b c : E) : ev C (.chain o p a b c) ρ = (ev C a ρ).bind fun x => (ev C b ρ).bind fun y => (cmpD o x.1 y.1).bind (chK C p y c ρ) := id rfl
theorem ev_isc (d : D) (p : Bool) (a : E) : ev C (.isc d p a) ρ = (ev C a ρ).bind fun x => iscK p (isD d x.1) := id rfl
theorem ev_and (a b : E) : ev C (.and a b) ρ = (boolR (ev C a ρ)).bind (andK C b ρ) := id rfl
theorem ev_or (a b : E) : ev C (.or a b) ρ = (boolR (ev C a ρ)).bind (orK C b ρ) := id rfl
theorem ev_not (a : E) : ev C (.not a) ρ = (boolR (ev C a ρ)).bind fun c => .ok (.bl (!c), false) := id rfl
theorem ev_ifx (c a b : E) : ev C (.ifx c a b) ρ = (boolR (ev C c ρ)).bind (ixK C a b ρ) := id rfl
theorem ev_ix (a b : E) : ev C (.ix a b) ρ = (ev C a ρ).bind fun x => (ev C b ρ).bind fun y => ixD x.1 y.1 := id rfl
theorem ev_slA (a lo : E) : ev C (.slA a lo) ρ = (ev C a ρ).bind fun x => (intR (ev C lo ρ)).bind fun i => slD x.1 (some i) none := id rfl
theorem ev_slB (a hi : E) : ev C (.slB a hi) ρ = (ev C a ρ).bind fun x => (intR (ev C hi ρ)).bind fun j => slD x.1 none (some j) := id rfl
theorem ev_slC (a lo hi : E) : ev C (.slC a lo hi) ρ = (ev C a ρ).bind fun x => (intR (ev C lo ρ)).bind fun i => (intR (ev C hi ρ)).bind fun j => slD x.1 (some i) (some j) := id rfl
theorem ev_call (f : Nat) (es : Es) : ev C (.call f es) ρ = (evs C es ρ).bind (C f) := id rfl
theorem ev_callv (f : E) (es : Es) : ev C (.callv f es) ρ = (ev C f ρ).bind (cvK C es ρ) := id rfl
theorem ev_prim (p : Prim) (es : Es) : ev C (.prim p es) ρ = (evs C es ρ).bind (prD p) := id rfl
theorem ev_comp (elt : E) (tg : Tg) (src : Sr) (own : List Nat) : ev C (.comp elt tg src own) ρ = (evSr C src ρ).bind (cmpK C elt tg own ρ) := id rfl
theorem ev_compf (elt : E) (tg : Tg) (src : Sr) (test : E) (own : List Nat) : ev C (.compf elt tg src test own) ρ = (evSr C src ρ).bind (cmfK C elt tg test own ρ) := id rfl
theorem ev_comp2 (elt : E) (tg : Tg) (src : Sr) (tg1 : Tg) (src1 : Sr) (own own1 : List Nat) : ev C (.comp2 elt tg src tg1 src1 own own1) ρ = (evSr C src ρ).bind (cm2K C elt tg tg1 src1 own own1 ρ) := id rfl
theorem evs_nil : evs C .nil ρ = .ok [] := id rfl
theorem evs_cons (e : E) (es : Es) : evs C (.cons e es) ρ = (ev C e ρ).bind fun x => (evs C es ρ).bind fun xs => .ok (x.1 :: xs) := id rfl
theorem sr_seq (e : E) : evSr C (.seq e) ρ = (ev C e ρ).bind seqK := id rfl
theorem sr_rg1 (e : E) : evSr C (.rg1 e) ρ = (intR (ev C e ρ)).bind fun n => okIf (rgOk 0 n) (rgD 0 n) := id rfl
theorem sr_rg2 (a b : E) : evSr C (.rg2 a b) ρ = (intR (ev C a ρ)).bind fun m => (intR (ev C b ρ)).bind fun n => okIf (rgOk m n) (rgD m n) := id rfl
theorem sr_zip (a b : E) : evSr C (.zip a b) ρ = (ev C a ρ).bind fun x => (ev C b ρ).bind fun y => zipK x y := id rfl
theorem ev_rng (t : Bool) (s : Sr) : ev C (.rng t s) ρ = (evSr C s ρ).bind fun xs => .ok (if t = true then (.tup xs, false) else (.lst xs, true)) := id rfl
theorem ev_dnew : ev C .dnew ρ = .ok (.dct [] [], true) := id rfl
theorem ev_rev (e : E) : ev C (.rev e) ρ = (ev C e ρ).bind fun x => revD x.1 := id rfl
theorem ev_srl (e : E) : ev C (.srl e) ρ = (ev C e ρ).bind fun x => srlD x.1 := id rfl
theorem ev_srs (e : E) : ev C (.srs e) ρ = (ev C e ρ).bind fun x => srsD x.1 := id rfl
theorem sr_enum (a : E) : evSr C (.enum a) ρ = (ev C a ρ).bind enuK := id rfl
theorem ex_set (i : Nat) (ow : Bool) (e : E) (ms : List Nat) : ex C (.set i ow e ms) δ = onR (ev C e (view ms δ)) δ fun d => .nx ((after ms d δ).set i (some (ow && d.2, d.1))) := id rfl
theorem ex_unp (tg : Tg) (e : E) (ms : List Nat) : ex C (.unp tg e ms) δ = onR (ev C e (view ms δ)) δ fun d => unpK (bindS tg d.1 (after ms d δ)) := id rfl
theorem ex_par2 (len i j : Nat) (oi oj : Bool) (a b : E) (ms : List Nat) : ex C (.par2 len i j oi oj a b ms) δ = lenK δ.length len (onR (ev C a (view ms δ)) δ fun d => onR (ev C b (view ms (after ms d δ))) (after ms d δ) fun e =>
      .nx (((after ms e (after ms d δ)).set i (some (oi && d.2, d.1))).set j (some (oj && e.2, e.1)))) := id rfl
theorem ex_par3 (len i j k : Nat) (oi oj ok : Bool) (a b c : E) (ms : List Nat) : ex C (.par3 len i j k oi oj ok a b c ms) δ = lenK δ.length len (onR (ev C a (view ms δ)) δ fun d => onR (ev C b (view ms (after ms d δ))) (after ms d δ) fun e =>
      onR (ev C c (view ms (after ms e (after ms d δ)))) (after ms e (after ms d δ)) fun f =>
      .nx ((((after ms f (after ms e (after ms d δ))).set i (some (oi && d.2, d.1))).set j (some (oj && e.2, e.1))).set k (some (ok && f.2, f.1)))) := id rfl
theorem ex_drop (e : E) : ex C (.drop e) δ = onR (ev C e (view [] δ)) δ fun _ => .nx δ := id rfl
theorem ex_app (i : Nat) (e : E) (ms : List Nat) : ex C (.app i e ms) δ = ownK (isOwn i δ) (onR (ev C e (view ms δ)) δ fun d => appL i d (after ms d δ)) := id rfl
theorem ex_ext (i : Nat) (e : E) (ms : List Nat) : ex C (.ext i e ms) δ = ownK (isOwn i δ) (onR (ev C e (view ms δ)) δ fun d => extL i d (after ms d δ)) := id rfl
theorem ex_put (i : Nat) (k e : E) (ms : List Nat) : ex C (.put i k e ms) δ = ownK (isOwnK i δ) (onR (ev C e (view ms δ)) δ fun d => onR (ev C k (view [] (after ms d δ))) (after ms d δ) fun q => putK i q d (after ms d δ)) := id rfl
theorem ex_rem (i : Nat) (e : E) : ex C (.rem i e) δ = ownK (isOwn i δ) (onR (ev C e (view [] δ)) δ fun d => remL i d δ) := id rfl
theorem ex_ret (e : E) : ex C (.ret e) δ = onR (ev C e (viewA δ)) δ Out.ret := id rfl
theorem ex_retV (i : Nat) : ex C (.retV i) δ = rvK δ[i]? := id rfl
theorem ex_retN : ex C .retN δ = .ret (.non, false) := id rfl
theorem ex_pass : ex C .pass δ = .nx δ := id rfl
theorem ex_ife (c : E) (a b : Ss) : ex C (.ife c a b) δ = onR (boolR (ev C c (viewA δ))) δ (ifK C a b δ) := id rfl
theorem ex_forr (tg : Tg) (src : Sr) (ms : List Nat) (body : Ss) : ex C (.forr tg src ms body) δ = onR (evSr C src (view ms δ)) δ (forK C tg ms body δ) := id rfl
theorem ex_whl (c : E) (body : Ss) : ex C (.whl c body) δ = whS C c body whFuel δ := id rfl
theorem ex_raise (c : Nat) : ex C (.raise c) δ = .err c δ := id rfl
theorem ex_try (body : Ss) (i : Nat) (cs : List Nat) : ex C (.tryI body i cs) δ = tryO i cs (exs C body δ) := id rfl
theorem exs_nil : exs C .nil δ = .nx δ := id rfl
theorem exs_cons (s : S) (r : Ss) : exs C (.cons s r) δ = (ex C s δ).then (exs C r) := id rfl
theorem andK_t (b : E) : andK C b ρ true = (boolR (ev C b ρ)).bind fun d => .ok (.bl d, false) := id rfl
theorem andK_f (b : E) : andK C b ρ false = .ok (.bl false, false) := id rfl
theorem orK_t (b : E) : orK C b ρ true = .ok (.bl true, false) := id rfl
theorem orK_f (b : E) : orK C b ρ false = (boolR (ev C b ρ)).bind fun d => .ok (.bl d, false) := id rfl
theorem ixK_t (a b : E) : ixK C a b ρ true = ev C a ρ := id rfl
theorem ixK_f (a b : E) : ixK C a b ρ false = ev C b ρ := id rfl
theorem chK_t (p : Cop) (y : DB) (c : E) : chK C p y c ρ true = (ev C c ρ).bind fun z => (cmpD p y.1 z.1).bind fun l => .ok (.bl l, false) := id rfl
theorem chK_f (p : Cop) (y : DB) (c : E) : chK C p y c ρ false = .ok (.bl false, false) := id rfl
theorem cvK_fn (es : Es) (i : Nat) (b : Bool) : cvK C es ρ (.fn i, b) = (evs C es ρ).bind (C i) := id rfl
theorem ifK_t (a b : Ss) : ifK C a b δ true = exs C a δ := id rfl
theorem ifK_f (a b : Ss) : ifK C a b δ false = exs C b δ := id rfl
theorem forK_n (tg : Tg) (body : Ss) (xs : List D) : forK C tg [] body δ xs = forS C tg body xs δ := id rfl
theorem forS_nil (tg : Tg) (body : Ss) : forS C tg body [] δ = .nx δ := id rfl
def bodK (body : Ss) (o : Option Sl) : Out := match o with | some δ' => exs C body δ' | none => .bad
theorem bodK_s (body : Ss) : bodK C body (some δ) = exs C body δ := id rfl
theorem forS_cons (tg : Tg) (body : Ss) (x : D) (xs : List D) : forS C tg body (x :: xs) δ = (bodK C body (bindS tg x δ)).then (forS C tg body xs) := id rfl
theorem whS_succ (c : E) (body : Ss) (n : Nat) : whS C c body (n + 1) δ = onR (boolR (ev C c (viewA δ))) δ fun k => if k = true then (exs C body δ).then (whS C c body n) else .nx δ := id rfl
end
theorem varK_s (d : D) : varK (some (some d)) = .ok (d, false) := id rfl
theorem rvK_s (ow : Bool) (d : D) : rvK (some (some (ow, d))) = .ret (d, ow) := id rfl
theorem unpK_s (δ : Sl) : unpK (some δ) = .nx δ := id rfl
theorem ownK_t (o : Out) : ownK true o = o := id rfl
theorem lenK_t (a : Nat) (o : Out) : lenK a a o = o := by unfold lenK; rw [if_pos rfl]
theorem seqK_l (xs : List D) (b : Bool) : seqK (.lst xs, b) = .ok xs := id rfl
theorem seqK_t (xs : List D) (b : Bool) : seqK (.tup xs, b) = .ok xs := id rfl
theorem seqK_s (z : Str) (b : Bool) : seqK (.str z, b) = okIf (decide (z.length ≤ szl)) (z.cps.toList.map fun c => .str ⟨#[c]⟩) := id rfl
theorem zipK_l (xs ys : List D) (a b : Bool) : zipK (.lst xs, a) (.lst ys, b) = .ok (zipD xs ys) := id rfl
theorem zipK_t (xs ys : List D) (a b : Bool) : zipK (.tup xs, a) (.tup ys, b) = .ok (zipD xs ys) := id rfl
theorem enuK_t (xs : List D) (b : Bool) : enuK (.tup xs, b) = .ok (enumD 0 xs) := id rfl
theorem enuK_l (xs : List D) (b : Bool) : enuK (.lst xs, b) = .ok (enumD 0 xs) := id rfl
theorem negK_i (i : Int) (b : Bool) : negK (.int i, b) = .ok (.int (-i), false) := id rfl
theorem iscK_t (b : Bool) : iscK true (some b) = .ok (.bl b, false) := id rfl
theorem iscK_f (b : Bool) : iscK false (some b) = .ok (.bl (!b), false) := id rfl
theorem tryO_nx (i : Nat) (cs : List Nat) (δ : Sl) : tryO i cs (.nx δ) = .nx δ := id rfl
theorem tryO_ret (i : Nat) (cs : List Nat) (d : DB) : tryO i cs (.ret d) = .ret d := id rfl
theorem bd_ok {α β : Type} (a : α) (f : α → R β) : (R.ok a).bind f = f a := id rfl
theorem bd_err {α β : Type} (c : Nat) (f : α → R β) : (R.err c : R α).bind f = .err c := id rfl
theorem bd_bad {α β : Type} (f : α → R β) : (R.bad : R α).bind f = .bad := id rfl
theorem on_ok {α : Type} (a : α) (δ : Sl) (k : α → Out) : onR (.ok a) δ k = k a := id rfl
theorem on_err {α : Type} (c : Nat) (δ : Sl) (k : α → Out) : onR (.err c : R α) δ k = .err c δ := id rfl
theorem on_bad {α : Type} (δ : Sl) (k : α → Out) : onR (.bad : R α) δ k = .bad := id rfl
theorem th_nx (δ : Sl) (k : Sl → Out) : (Out.nx δ).then k = k δ := id rfl
theorem th_ret (d : DB) (k : Sl → Out) : (Out.ret d).then k = .ret d := id rfl
theorem th_err (c : Nat) (δ : Sl) (k : Sl → Out) : (Out.err c δ).then k = .err c δ := id rfl
theorem th_bad (k : Sl → Out) : (Out.bad).then k = .bad := id rfl
theorem boolR_ok (b k : Bool) : boolR (.ok (.bl b, k)) = .ok b := id rfl
theorem boolR_err (c : Nat) : boolR (.err c) = .err c := id rfl
theorem intR_ok (i : Int) (k : Bool) : intR (.ok (.int i, k)) = .ok i := id rfl
theorem intR_err (c : Nat) : intR (.err c) = .err c := id rfl
theorem noErr_ok {α : Type} (a : α) : noErr (.ok a) = .ok a := id rfl
theorem call_succ (fs : List Fn) (n f : Nat) (ds : List D) : call fs (n + 1) f ds = match fs[f]? with | some fn => runF (call fs n) fn ds | none => .bad := id rfl
/-- the end of a def's body -/
def outR : Out → R DB
  | .nx _ => .ok (.non, false)
  | .ret d => .ok d
  | .err c _ => .err c
  | .bad => .bad
theorem outR_nx (δ : Sl) : outR (.nx δ) = .ok (.non, false) := id rfl
theorem outR_ret (d : DB) : outR (.ret d) = .ok d := id rfl
theorem outR_err (c : Nat) (δ : Sl) : outR (.err c δ) = .err c := id rfl
theorem runF_eq {C : Orc} {f : Fn} {ds : List D} (h : ds.length = f.ar) : runF C f ds = outR (exs C f.body (ds.map (fun d => some (false, d)) ++ List.replicate (f.ns - ds.length) none)) := by
  unfold runF
  rw [if_pos h]
  cases exs C f.body (ds.map (fun d => some (false, d)) ++ List.replicate (f.ns - ds.length) none) <;> rfl
/-- one slot as it is read -/
def vw (ms : List Nat) (n : Nat) : Option (Bool × D) → Option D
  | none => none
  | some (ow, d) => if ow && !ms.contains n then none else some d
theorem view_eq (ms : List Nat) (δ : Sl) : view ms δ = viewF ms 0 δ := id rfl
theorem viewF_nil (ms : List Nat) (n : Nat) : viewF ms n [] = [] := id rfl
theorem viewF_cons (ms : List Nat) (n : Nat) (x : Option (Bool × D)) (r : Sl) : viewF ms n (x :: r) = vw ms n x :: viewF ms (n + 1) r := by
  cases x <;> rfl
theorem vw_none (ms : List Nat) (n : Nat) : vw ms n none = none := id rfl
theorem vw_val (ms : List Nat) (n : Nat) (d : D) : vw ms n (some (false, d)) = some d := id rfl
theorem vw_own (ms : List Nat) (n : Nat) (d : D) : vw ms n (some (true, d)) = if ms.contains n then some d else none := by
  unfold vw
  cases ms.contains n <;> rfl
theorem vw_own0 (n : Nat) (d : D) : vw [] n (some (true, d)) = none := rfl
def vA : Option (Bool × D) → Option D := Option.map (·.2)
theorem viewA_nil : viewA [] = [] := id rfl
theorem viewA_cons (x : Option (Bool × D)) (r : Sl) : viewA (x :: r) = vA x :: viewA r := id rfl
theorem vA_some (b : Bool) (d : D) : vA (some (b, d)) = some d := id rfl
theorem vA_none : vA none = none := id rfl
theorem after_nil (d : DB) (δ : Sl) : after [] d δ = δ := id rfl
theorem atD_nat {xs : List D} {n : Nat} {d : D} (h : xs[n]? = some d) : atD xs (n : Int) = .ok (d, false) := by
  have hn : n < xs.length := (List.getElem?_eq_some_iff.mp h).1
  unfold atD atI ixN
  rw [if_pos (by omega), if_pos (by omega)]
  simp [h]
theorem atI_nat {α : Type} {xs : List α} {n : Nat} {d : α} (h : xs[n]? = some d) : atI xs (n : Int) = some d := by
  have hn : n < xs.length := (List.getElem?_eq_some_iff.mp h).1
  unfold atI ixN
  rw [if_pos (by omega), if_pos (by omega)]
  simp [h]
theorem at0 (x : D) (xs : List D) : atD (x :: xs) 0 = .ok (x, false) := atD_nat (n := 0) rfl
theorem at1 (x y : D) (xs : List D) : atD (x :: y :: xs) 1 = .ok (y, false) := atD_nat (n := 1) rfl
theorem at2 (x y z : D) (xs : List D) : atD (x :: y :: z :: xs) 2 = .ok (z, false) := atD_nat (n := 2) rfl
theorem at3 (x y z w : D) (xs : List D) : atD (x :: y :: z :: w :: xs) 3 = .ok (w, false) := atD_nat (n := 3) rfl
/-- a loop with an invariant -/
theorem forL_inv {f : D → Sl → Out} (I : Sl → Prop) : ∀ {xs : List D} {δ : Sl}, (∀ x ∈ xs, ∀ δ, I δ → ∃ δ', f x δ = .nx δ' ∧ I δ') → I δ → ∃ δ', forL f xs δ = .nx δ' ∧ I δ'
  | [], δ, _, h => ⟨δ, rfl, h⟩
  | x :: xs, δ, hf, h => by
    obtain ⟨δ1, e1, h1⟩ := hf x List.mem_cons_self δ h
    obtain ⟨δ2, e2, h2⟩ := forL_inv I (xs := xs) (fun y hy => hf y (List.mem_cons_of_mem _ hy)) h1
    exact ⟨δ2, by simp only [forL, e1, Out.then_nx, e2], h2⟩
/-- a loop that looks for the first -/
theorem forL_find {f : D → Sl → Out} (I : Sl → Prop) (p : D → Bool) (r : D → DB) : ∀ {xs : List D} {δ : Sl}, (∀ x ∈ xs, ∀ δ, I δ → if p x = true then f x δ = .ret (r x) else ∃ δ', f x δ = .nx δ' ∧ I δ') → I δ →
    match xs.find? p with | some x => forL f xs δ = .ret (r x) | none => ∃ δ', forL f xs δ = .nx δ' ∧ I δ'
  | [], δ, _, h => ⟨δ, rfl, h⟩
  | x :: xs, δ, hf, h => by
    have h1 := hf x List.mem_cons_self δ h
    by_cases hp : p x = true
    · rw [if_pos hp] at h1
      rw [List.find?_cons_of_pos hp]
      simp only [forL, h1, Out.then_ret]
    · rw [if_neg hp] at h1
      obtain ⟨δ1, e1, h1⟩ := h1
      rw [List.find?_cons_of_neg hp]
      have ih := forL_find I p r (xs := xs) (fun y hy => hf y (List.mem_cons_of_mem _ hy)) h1
      split <;> rename_i e <;> rw [e] at ih <;> simp only [forL, e1, Out.then_nx] <;> exact ih
/-- .. for the first that gives something -/
theorem forL_some {f : D → Sl → Out} (I : Sl → Prop) (g : D → Option DB) : ∀ {xs : List D} {δ : Sl}, (∀ x ∈ xs, ∀ δ, I δ → match g x with | some d => f x δ = .ret d | none => ∃ δ', f x δ = .nx δ' ∧ I δ') → I δ →
    match xs.findSome? g with | some d => forL f xs δ = .ret d | none => ∃ δ', forL f xs δ = .nx δ' ∧ I δ'
  | [], δ, _, h => ⟨δ, rfl, h⟩
  | x :: xs, δ, hf, h => by
    have h1 := hf x List.mem_cons_self δ h
    rw [List.findSome?_cons]
    cases hg : g x with
    | some d =>
      rw [hg] at h1
      simp only [forL, h1, Out.then_ret]
    | none =>
      rw [hg] at h1
      obtain ⟨δ1, e1, h1⟩ := h1
      have ih := forL_some I g (xs := xs) (fun y hy => hf y (List.mem_cons_of_mem _ hy)) h1
      dsimp only
      split <;> rename_i e <;> rw [e] at ih <;> simp only [forL, e1, Out.then_nx] <;> exact ih
theorem dats_of {n : Nat} : ∀ {xs : List D}, (∀ x ∈ xs, dat n x = true) → dats n xs = true
  | [], _ => by cases n <;> rfl
  | x :: xs, h => by
    unfold dats
    rw [h x List.mem_cons_self, dats_of fun y hy => h y (List.mem_cons_of_mem _ hy)]
    rfl
theorem dat_lst {n : Nat} {xs : List D} (h : ∀ x ∈ xs, dat n x = true) : dat (n + 1) (.lst xs) = true := by
  unfold dat
  exact dats_of h
theorem eqDs_nil (xs : List D) : eqDs xs [] = xs.isEmpty := by cases xs <;> rfl
theorem c_neT (xs : List D) (b : D) : cmpD .ne (.tup xs) b = okIf (dat 60 (.tup xs) && dat 60 b) (!eqD (.tup xs) b) := by cases b <;> rfl
theorem c_neL (xs : List D) (b : D) : cmpD .ne (.lst xs) b = okIf (dat 60 (.lst xs) && dat 60 b) (!eqD (.lst xs) b) := by cases b <;> rfl
theorem eqD_tup (xs ys : List D) : eqD (.tup xs) (.tup ys) = eqDs xs ys := id rfl
theorem eqD_lst (xs ys : List D) : eqD (.lst xs) (.lst ys) = eqDs xs ys := id rfl
theorem eqDs_cons (x y : D) (xs ys : List D) : eqDs (x :: xs) (y :: ys) = (eqD x y && eqDs xs ys) := id rfl
theorem eqD_int (i j : Int) : eqD (.int i) (.int j) = decide (i = j) := by
  rw [← Bool.beq_eq_decide_eq]
  rfl
theorem eqD_bl (i j : Bool) : eqD (.bl i) (.bl j) = (i == j) := id rfl
theorem dat_tup (n : Nat) (xs : List D) : dat (n + 1) (.tup xs) = dats n xs := id rfl
theorem dat_lstE (n : Nat) (xs : List D) : dat (n + 1) (.lst xs) = dats n xs := id rfl
theorem dats_cons (n : Nat) (x : D) (xs : List D) : dats n (x :: xs) = (dat n x && dats n xs) := by cases n <;> rfl
theorem dats_nil (n : Nat) : dats n [] = true := by cases n <;> rfl
theorem dat_int (n : Nat) (i : Int) : dat n (.int i) = true := by cases n <;> rfl
theorem dat_bl (n : Nat) (i : Bool) : dat n (.bl i) = true := by cases n <;> rfl
theorem dat_non (n : Nat) : dat n .non = true := by cases n <;> rfl
/-- a check by the kernel -/
def isI (r : R DB) (k : Int) : Bool := match r with | .ok (.int i, false) => i == k | _ => false
theorem isI_ok {r : R DB} {k : Int} (h : isI r k = true) : r = .ok (.int k, false) := by
  unfold isI at h
  split at h
  · have := eq_of_beq h
    subst this
    rfl
  · cases h
def isB (r : R DB) (k : Bool) : Bool := match r with | .ok (.bl i, false) => i == k | _ => false
theorem isB_ok {r : R DB} {k : Bool} (h : isB r k = true) : r = .ok (.bl k, false) := by
  unfold isB at h
  split at h
  · have := eq_of_beq h
    subst this
    rfl
  · cases h
def isX (r : R DB) (k : Nat) : Bool := match r with | .err i => i == k | _ => false
theorem isX_ok {r : R DB} {k : Nat} (h : isX r k = true) : r = .err k := by
  unfold isX at h
  split at h
  · have := eq_of_beq h
    subst this
    rfl
  · cases h
theorem rgOk_ok {a b : Int} (h1 : -1000000000 ≤ a) (h2 : a ≤ 1000000000) (h3 : -1000000000 ≤ b) (h4 : b ≤ 1000000000) (h5 : b - a ≤ 16777216) : rgOk a b = true := by
  unfold rgOk
  simp only [Bool.and_eq_true, decide_eq_true_eq]
  omega
theorem forS_some {C : Orc} {tg : Tg} {body : Ss} (I : Sl → Prop) (g : D → Option DB) {xs : List D} {δ : Sl} (h : ∀ x ∈ xs, ∀ δ, I δ → match g x with | some d => bodK C body (bindS tg x δ) = .ret d | none => ∃ δ', bodK C body (bindS tg x δ) = .nx δ' ∧ I δ') (h0 : I δ) :
    match xs.findSome? g with | some d => forS C tg body xs δ = .ret d | none => ∃ δ', forS C tg body xs δ = .nx δ' ∧ I δ' := forL_some (f := fun x δ => bodK C body (bindS tg x δ)) I g h h0
theorem forS_inv {C : Orc} {tg : Tg} {body : Ss} (I : Sl → Prop) {xs : List D} {δ : Sl} (h : ∀ x ∈ xs, ∀ δ, I δ → ∃ δ', bodK C body (bindS tg x δ) = .nx δ' ∧ I δ') (h0 : I δ) : ∃ δ', forS C tg body xs δ = .nx δ' ∧ I δ' := forL_inv (f := fun x δ => bodK C body (bindS tg x δ)) I h h0
/-- a loop, what it has gone through -/
theorem forL_pre {f : D → Sl → Out} (P : List D → Sl → Prop) (all : List D) (hf : ∀ pre x post δ, all = pre ++ x :: post → P pre δ → ∃ δ', f x δ = .nx δ' ∧ P (pre ++ [x]) δ') : ∀ {xs pre : List D} {δ : Sl}, all = pre ++ xs → P pre δ → ∃ δ', forL f xs δ = .nx δ' ∧ P all δ'
  | [], pre, δ, e, h => ⟨δ, rfl, by rw [e, List.append_nil]; exact h⟩
  | x :: xs, pre, δ, e, h => by
    obtain ⟨δ1, e1, h1⟩ := hf pre x xs δ e h
    obtain ⟨δ2, e2, h2⟩ := forL_pre P all hf (xs := xs) (pre := pre ++ [x]) (by rw [e, List.append_assoc]; rfl) h1
    exact ⟨δ2, by simp only [forL, e1, Out.then_nx, e2], h2⟩
theorem forS_pre {C : Orc} {tg : Tg} {body : Ss} (P : List D → Sl → Prop) {xs : List D} {δ : Sl} (h : ∀ pre x post δ, xs = pre ++ x :: post → P pre δ → ∃ δ', bodK C body (bindS tg x δ) = .nx δ' ∧ P (pre ++ [x]) δ') (h0 : P [] δ) : ∃ δ', forS C tg body xs δ = .nx δ' ∧ P xs δ' :=
  forL_pre (f := fun x δ => bodK C body (bindS tg x δ)) P xs h (xs := xs) (pre := []) rfl h0
theorem rgD_at {a b : Int} {pre post : List D} {x : D} (h : rgD a b = pre ++ x :: post) : x = .int (a + pre.length) ∧ a + pre.length < b := by
  have e : (rgD a b)[pre.length]? = some x := by rw [h]; simp
  have hl : pre.length < (rgD a b).length := (List.getElem?_eq_some_iff.mp e).1
  rw [rgD_length] at hl
  unfold rgD at e
  rw [List.getElem?_map, List.getElem?_range hl] at e
  simp only [Option.map_some, Option.some.injEq] at e
  exact ⟨e.symm, by omega⟩
theorem isOwn_t (i : Nat) (δ : Sl) (xs : List D) (h : δ[i]? = some (some (true, .lst xs))) : isOwn i δ = true := by
  unfold isOwn
  rw [h]
theorem appL_t (i : Nat) (d : DB) (δ : Sl) (xs : List D) (h : δ[i]? = some (some (true, .lst xs))) (hz : xs.length < szl) : appL i d δ = .nx (δ.set i (some (true, .lst (xs ++ [d.1])))) := by
  unfold appL
  rw [h]
  show (if xs.length < szl then _ else _) = _
  rw [if_pos hz]
theorem compL_map {f : D → R (Option D)} {g : D → D} : ∀ {xs : List D}, (∀ x ∈ xs, f x = .ok (some (g x))) → compL f xs = .ok (xs.map g)
  | [], _ => rfl
  | x :: xs, h => by
    simp only [compL, h x List.mem_cons_self, R.bind_ok, compL_map (xs := xs) fun y hy => h y (List.mem_cons_of_mem _ hy), List.map_cons]
theorem compL_filter {f : D → R (Option D)} {p : D → Bool} {g : D → D} : ∀ {xs : List D}, (∀ x ∈ xs, f x = .ok (if p x = true then some (g x) else none)) → compL f xs = .ok ((xs.filter p).map g)
  | [], _ => rfl
  | x :: xs, h => by
    simp only [compL, h x List.mem_cons_self, R.bind_ok, compL_filter (xs := xs) fun y hy => h y (List.mem_cons_of_mem _ hy)]
    by_cases hp : p x = true
    · rw [if_pos hp, List.filter_cons_of_pos hp, List.map_cons]
    · rw [if_neg hp, List.filter_cons_of_neg hp]
theorem rgD_mem {a b : Int} {x : D} (h : x ∈ rgD a b) : ∃ i : Int, x = .int i ∧ a ≤ i ∧ i < b := by
  unfold rgD at h
  obtain ⟨i, hi, rfl⟩ := List.mem_map.mp h
  have := List.mem_range.mp hi
  exact ⟨_, rfl, by omega, by omega⟩
theorem nabs (n : Nat) : Int.natAbs (no_index (OfNat.ofNat n : Int)) = (OfNat.ofNat n : Nat) := id rfl
theorem nabs_neg (n : Nat) : Int.natAbs (-(no_index (OfNat.ofNat n : Int))) = (OfNat.ofNat n : Nat) := by
  rw [Int.natAbs_neg]
  rfl
theorem b_addI (i j : Int) : binD .add (.int i) (.int j) = .ok (.int (i + j), false) := id rfl
theorem b_addS (x y : Str) : binD .add (.str x) (.str y) = okIf (decide (x.length + y.length ≤ szl)) (.str (x ++ y), false) := id rfl
theorem b_addT (x y : List D) : binD .add (.tup x) (.tup y) = okIf (decide (x.length + y.length ≤ szl)) (.tup (x ++ y), false) := id rfl
theorem b_addL (x y : List D) : binD .add (.lst x) (.lst y) = okIf (decide (x.length + y.length ≤ szl)) (.lst (x ++ y), true) := id rfl
theorem b_subI (i j : Int) : binD .sub (.int i) (.int j) = .ok (.int (i - j), false) := id rfl
theorem b_mulI (i j : Int) : binD .mul (.int i) (.int j) = okIf (decide (i.natAbs < 18446744073709551616) || decide (j.natAbs < 18446744073709551616)) (.int (i * j), false) := id rfl
theorem b_mulL (x : List D) (k : Int) : binD .mul (.lst x) (.int k) = okIf (decide (0 ≤ k) && decide (k < 1000) && decide (x.length ≤ 1000)) (.lst (List.replicate k.toNat x).flatten, true) := id rfl
theorem b_mulT (x : List D) (k : Int) : binD .mul (.tup x) (.int k) = okIf (decide (1 ≤ k) && decide (k ≤ 1000) && decide (x.length ≤ 1000) && !fzD x) (.tup (List.replicate k.toNat x).flatten, false) := id rfl
theorem b_fdI (i j : Int) : binD .fdiv (.int i) (.int j) = okIf (decide (0 < j) && decide (j.natAbs.log2 < 9000)) (.int (i / j), false) := id rfl
theorem b_mdI (i j : Int) : binD .mod (.int i) (.int j) = okIf (decide (0 < j)) (.int (i % j), false) := id rfl
theorem b_pwI (i j : Int) : binD .pow (.int i) (.int j) = okIf (decide (0 ≤ j) && decide (j ≤ 1000000) && decide (i.natAbs < 18446744073709551616)) (.int (i ^ j.toNat), false) := id rfl
theorem b_shI (i j : Int) : binD .shl (.int i) (.int j) = okIf (decide (0 ≤ j) && decide (j ≤ 1000000) && decide (i.natAbs < 18446744073709551616)) (.int (i * 2 ^ j.toNat), false) := id rfl
theorem c_lt (i j : Int) : cmpD .lt (.int i) (.int j) = .ok (decide (i < j)) := id rfl
theorem c_le (i j : Int) : cmpD .le (.int i) (.int j) = .ok (decide (i ≤ j)) := id rfl
theorem c_gt (i j : Int) : cmpD .gt (.int i) (.int j) = .ok (decide (j < i)) := id rfl
theorem c_ge (i j : Int) : cmpD .ge (.int i) (.int j) = .ok (decide (j ≤ i)) := id rfl
theorem c_scr (ns : List Int) : cmpD .ne (.scr ns) (.lst []) = .ok (!ns.isEmpty) := id rfl
theorem c_eq (a b : D) : cmpD .eq a b = okIf (dat 60 a && dat 60 b) (eqD a b) := by cases a <;> cases b <;> rfl
theorem c_eqI (i j : Int) : cmpD .eq (.int i) (.int j) = .ok (decide (i = j)) := by
  rw [← Bool.beq_eq_decide_eq]
  rfl
theorem c_neI (i j : Int) : cmpD .ne (.int i) (.int j) = .ok (!decide (i = j)) := by
  rw [← Bool.beq_eq_decide_eq]
  rfl
theorem c_neB (i j : Bool) : cmpD .ne (.bl i) (.bl j) = .ok (!(i == j)) := id rfl
theorem c_eqB (i j : Bool) : cmpD .eq (.bl i) (.bl j) = .ok (i == j) := id rfl
theorem c_inL (x : D) (ys : List D) : cmpD .isin x (.lst ys) = okIf (dat 60 x && dats 59 ys) (inD x ys) := by cases x <;> rfl
theorem c_niL (x : D) (ys : List D) : cmpD .notin x (.lst ys) = okIf (dat 60 x && dats 59 ys) (!inD x ys) := by cases x <;> rfl
theorem c_inT (x : D) (ys : List D) : cmpD .isin x (.tup ys) = okIf (dat 0 x && dats 0 ys) (inD x ys) := by cases x <;> rfl
theorem c_niT (x : D) (ys : List D) : cmpD .notin x (.tup ys) = okIf (dat 0 x && dats 0 ys) (!inD x ys) := by cases x <;> rfl
theorem c_inS (x z : Str) : cmpD .isin (.str x) (.str z) = inS x z true := id rfl
theorem c_niS (x z : Str) : cmpD .notin (.str x) (.str z) = inS x z false := id rfl
theorem c_ltS (x z : Str) : cmpD .lt (.str x) (.str z) = .ok (decide (x.cps.toList < z.cps.toList)) := id rfl
theorem x_dcs (ks : List Str) (ds : List D) (x : Str) : ixD (.dcs ks ds) (.str x) = match getS ks ds x with | some d => .ok (d, false) | none => .bad := id rfl
theorem p_dictL (xs : List D) : prD .dict [.lst xs] = dofP xs := id rfl
theorem p_dictT (xs : List D) : prD .dict [.tup xs] = dofP xs := id rfl
theorem x_lst (xs : List D) (i : Int) : ixD (.lst xs) (.int i) = atD xs i := id rfl
theorem x_tup (xs : List D) (i : Int) : ixD (.tup xs) (.int i) = atD xs i := id rfl
theorem x_scr (ns : List Int) (i : Int) : ixD (.scr ns) (.int i) = match atI ns i with | some v => .ok (.int v, false) | none => .bad := id rfl
theorem p_lenL (xs : List D) : prD .len [.lst xs] = .ok (.int xs.length, false) := id rfl
theorem p_lenT (xs : List D) : prD .len [.tup xs] = .ok (.int xs.length, false) := id rfl
theorem p_lenS (xs : List Int) : prD .len [.scr xs] = .ok (.int xs.length, false) := id rfl
theorem p_minI (i j : Int) : prD .min [.int i, .int j] = .ok (.int (if j < i then j else i), false) := id rfl
theorem p_maxI (i j : Int) : prD .max [.int i, .int j] = .ok (.int (if j > i then j else i), false) := id rfl
theorem p_isi (t : Ty) (x : D) : prD (.isi t) [x] = match tyD t x with | some b => .ok (.bl b, false) | none => .bad := by cases x <;> rfl
theorem p_tupL (xs : List D) : prD .tuple [.lst xs] = .ok (.tup xs, false) := id rfl
theorem p_tupT (xs : List D) : prD .tuple [.tup xs] = .ok (.tup xs, false) := id rfl
theorem p_lstL (xs : List D) : prD .list [.lst xs] = .ok (.lst xs, true) := id rfl
theorem p_lstT (xs : List D) : prD .list [.tup xs] = .ok (.lst xs, true) := id rfl
theorem p_min (xs : List D) : prD .min [.lst xs] = match ints? xs with | some (x :: r) => .ok (.int (minL x r), false) | some [] => .bad | none => (match tups? xs with | some (x :: r) => .ok (.tup ((minT x r).map .int), false) | _ => .bad) := id rfl
theorem p_minT (xs : List D) : prD .min [.tup xs] = match ints? xs with | some (x :: r) => .ok (.int (minL x r), false) | _ => .bad := id rfl
theorem p_maxT (xs : List D) : prD .max [.tup xs] = match ints? xs with | some (x :: r) => .ok (.int (maxL x r), false) | _ => .bad := id rfl
theorem p_max (xs : List D) : prD .max [.lst xs] = match ints? xs with | some (x :: r) => .ok (.int (maxL x r), false) | _ => .bad := id rfl
theorem p_sumT (xs : List D) : prD .sum [.tup xs] = match ints? xs with | some ns => .ok (.int ns.sum, false) | _ => .bad := id rfl
theorem p_sortedT (xs : List D) : prD .sorted [.tup xs] = match ints? xs with | some ns => .ok (.lst ((sortI ns).map .int), true) | _ => .bad := id rfl
theorem p_sum (xs : List D) : prD .sum [.lst xs] = match ints? xs with | some ns => .ok (.int ns.sum, false) | _ => .bad := id rfl
theorem p_all (xs : List D) : prD .all [.lst xs] = match bls? xs with | some bs => .ok (.bl (bs.all id), false) | _ => .bad := id rfl
theorem p_any (xs : List D) : prD .any [.lst xs] = match bls? xs with | some bs => .ok (.bl (bs.any id), false) | _ => .bad := id rfl
theorem p_sorted (xs : List D) : prD .sorted [.lst xs] = match ints? xs with | some ns => .ok (.lst ((sortI ns).map .int), true) | _ => .bad := id rfl
theorem p_intB (b : Bool) : prD .int [.bl b] = .ok (.int (if b then 1 else 0), false) := id rfl
theorem p_intI (b : Int) : prD .int [.int b] = .ok (.int b, false) := id rfl
theorem ncast (n : Nat) : ((no_index (OfNat.ofNat n : Nat)) : Int) = (OfNat.ofNat n : Int) := id rfl
theorem lg (n : Nat) (h : n < 18446744073709551616) : decide (n.log2 < 9000) = true := by
  refine decide_eq_true ?_
  by_cases h0 : n = 0
  · subst h0; decide
  · exact Nat.lt_of_lt_of_le ((Nat.log2_lt h0).mpr (show n < 2 ^ 64 by omega)) (by omega)
/-! ### the laws' draws -/
def fDrawn : Fn := { ar := 3, ns := 6, body :=
    (.cons (.set 3 false (.bin .mul (.cst (.int (7))) (.var 1)) [])
    (.cons (.ife (.cmp .ne (.var 0) (.lst .nil)) (.cons (.set 3 false (.ix (.var 0) (.bin .mod (.var 1) (.prim .len (.cons (.var 0) .nil)))) [])
    (.cons (.set 4 false (.bin .fdiv (.var 1) (.prim .len (.cons (.var 0) .nil))) [])
    (.cons (.ife (.and (.cmp .ge (.var 3) (.bin .pow (.cst (.int (10))) (.cst (.int (18))))) (.cmp .lt (.var 4) (.cst (.int (60))))) (.cons (.set 5 false (.bin .fdiv (.var 3) (.bin .pow (.cst (.int (10))) (.cst (.int (18))))) [])
    (.cons (.whl (.and (.cmp .gt (.var 5) (.cst (.int (0)))) (.cmp .gt (.var 4) (.cst (.int (0))))) (.cons (.set 5 false (.bin .fdiv (.var 5) (.cst (.int (1000000)))) [])
    (.cons (.set 4 false (.bin .sub (.var 4) (.cst (.int (1)))) [])
    .nil)))
    (.cons (.ife (.cmp .gt (.var 5) (.cst (.int (0)))) (.cons (.ret (.bin .mod (.bin .mod (.var 5) (.cst (.int (1000000)))) (.var 2)))
    .nil) .nil)
    .nil))) .nil)
    (.cons (.set 3 false (.bin .add (.var 3) (.bin .mul (.cst (.int (6553))) (.bin .fdiv (.var 1) (.prim .len (.cons (.var 0) .nil))))) [])
    .nil)))) .nil)
    (.cons (.set 3 false (.bin .mod (.bin .add (.bin .mul (.bin .mod (.var 3) (.cst (.int (2147483563)))) (.cst (.int (69069)))) (.bin .mul (.cst (.int (104723))) (.bin .add (.var 1) (.cst (.int (1)))))) (.cst (.int (2147483563)))) [])
    (.cons (.set 3 false (.bin .mod (.bin .add (.bin .mul (.var 3) (.var 3)) (.bin .fdiv (.var 3) (.cst (.int (3))))) (.cst (.int (2147483399)))) [])
    (.cons (.ret (.bin .mod (.bin .fdiv (.bin .mod (.bin .add (.bin .mul (.var 3) (.var 3)) (.bin .fdiv (.var 3) (.cst (.int (7))))) (.cst (.int (2147483647)))) (.cst (.int (11)))) (.var 2)))
    .nil))))) }
set_option maxRecDepth 100000
theorem drawn_tail (C : Orc) (ns : List Int) (k m c : Int) (x4 x5 : Option (Bool × D)) (hm : 0 < m) : ∃ r : Int, 0 ≤ r ∧ r < m ∧
    exs C (.cons (.set 3 false (.bin .mod (.bin .add (.bin .mul (.bin .mod (.var 3) (.cst (.int (2147483563)))) (.cst (.int (69069)))) (.bin .mul (.cst (.int (104723))) (.bin .add (.var 1) (.cst (.int (1)))))) (.cst (.int (2147483563)))) [])
    (.cons (.set 3 false (.bin .mod (.bin .add (.bin .mul (.var 3) (.var 3)) (.bin .fdiv (.var 3) (.cst (.int (3))))) (.cst (.int (2147483399)))) [])
    (.cons (.ret (.bin .mod (.bin .fdiv (.bin .mod (.bin .add (.bin .mul (.var 3) (.var 3)) (.bin .fdiv (.var 3) (.cst (.int (7))))) (.cst (.int (2147483647)))) (.cst (.int (11)))) (.var 2)))
    .nil))) [some (false, .scr ns), some (false, .int k), some (false, .int m), some (false, .int c), x4, x5] = .ret (.int r, false) := by
  have small : ∀ x : Int, 0 ≤ x → x < 2147483647 → decide (x.natAbs < 18446744073709551616) = true := fun x h1 h2 => decide_eq_true (by omega)
  have hm' := decide_eq_true hm
  generalize e1 : (c % 2147483563 * 69069 + 104723 * (k + 1)) % 2147483563 = c1
  have a1 : 0 ≤ c1 ∧ c1 < 2147483647 := by omega
  generalize e2 : (c1 * c1 + c1 / 3) % 2147483399 = c2
  have a2 : 0 ≤ c2 ∧ c2 < 2147483647 := by omega
  have s1 := small c1 a1.1 a1.2
  have s2 := small c2 a2.1 a2.2
  refine ⟨((c2 * c2 + c2 / 7) % 2147483647 / 11) % m, Int.emod_nonneg _ (by omega), Int.emod_lt_of_pos _ hm, ?_⟩
  simp only [ev_var, ev_cst, ev_tup, ev_lst, ev_bin, ev_neg, ev_cmp, ev_chain, ev_isc, ev_and, ev_or, ev_not, ev_ifx, ev_ix, ev_slA, ev_slB, ev_slC, ev_call, ev_callv, ev_prim, ev_comp, ev_compf, ev_comp2, evs_nil, evs_cons, sr_seq, sr_rg1, sr_rg2, sr_zip, sr_enum, ex_set, ex_unp, ex_par2, ex_par3, ex_drop, ex_app, ex_ext, ex_rem, ex_ret, ex_retV, ex_retN, ex_pass, ex_ife, ex_forr, ex_whl, ex_raise, ex_try, exs_nil, exs_cons, andK_t, andK_f, orK_t, orK_f, ixK_t, ixK_f, chK_t, chK_f, cvK_fn, ifK_t, ifK_f, forK_n, varK_s, rvK_s, unpK_s, ownK_t, lenK_t, seqK_l, seqK_t, seqK_s, zipK_l, zipK_t, enuK_l, negK_i, iscK_t, iscK_f, tryO_nx, tryO_ret, bd_ok, bd_err, bd_bad, on_ok, on_err, on_bad, th_nx, th_ret, th_err, th_bad, boolR_ok, boolR_err, intR_ok, intR_err, noErr_ok, okIf_true, b_addI, b_subI, b_mulI, b_fdI, b_mdI, b_pwI, b_shI, c_lt, c_le, c_gt, c_ge, c_scr, c_eqI, c_neI, c_neB, c_eqB, x_lst, x_tup, x_dcs, c_inS, c_niS, c_ltS, p_dictL, p_dictT, p_lenL, p_lenT, p_lenS, p_minI, p_maxI, p_isi, p_tupL, p_tupT, p_lstL, p_lstT, p_intB, p_intI, tyD, isD, view_eq, viewF_nil, viewF_cons, vw_none, vw_val, viewA_nil, viewA_cons, vA_some, vA_none, after_nil, bindS, bindTg, Option.bind_some, List.map_cons, List.map_nil, List.cons_append, List.nil_append, List.set_cons_zero, List.set_cons_succ, List.getElem?_cons_zero, List.getElem?_cons_succ, List.length_cons, List.length_nil, List.isEmpty_nil, List.isEmpty_cons, ↓reduceIte, outR_nx, outR_ret, outR_err, Bool.not_true, Bool.not_false, Bool.false_and, Bool.true_and, Bool.and_true, Bool.and_false, Bool.or_true, Bool.true_or, Bool.false_or, Bool.or_false, Bool.false_eq_true, decide_true, decide_false, at0, at1, at2, at3, nabs, Nat.reduceLT, Nat.reduceLeDiff, Nat.reduceLT, Nat.reduceAdd, Int.reduceLT, Int.reduceLE, Int.reduceNeg, lg, reduceCtorEq, Option.map_some, Option.map_none, e1, e2, s1, s2, hm']

/-- the loop over the rest -/
theorem drawn_loop (C : Orc) (x0 x1 x2 x3 : Option (Bool × D)) : ∀ (t : Nat) (F : Nat) (rest : Int), t < F → ∃ (r' t' : Int),
    whS C (.and (.cmp .gt (.var 5) (.cst (.int (0)))) (.cmp .gt (.var 4) (.cst (.int (0))))) (.cons (.set 5 false (.bin .fdiv (.var 5) (.cst (.int (1000000)))) [])
    (.cons (.set 4 false (.bin .sub (.var 4) (.cst (.int (1)))) [])
    .nil)) F [x0, x1, x2, x3, some (false, .int t), some (false, .int rest)] = .nx [x0, x1, x2, x3, some (false, .int t'), some (false, .int r')]
  | t, 0, rest, h => absurd h (Nat.not_lt_zero _)
  | t, F + 1, rest, h => by
    rw [whS_succ]
    by_cases h1 : 0 < rest
    · by_cases h2 : (0 : Int) < t
      · simp only [ev_var, ev_cst, ev_tup, ev_lst, ev_bin, ev_neg, ev_cmp, ev_chain, ev_isc, ev_and, ev_or, ev_not, ev_ifx, ev_ix, ev_slA, ev_slB, ev_slC, ev_call, ev_callv, ev_prim, ev_comp, ev_compf, ev_comp2, evs_nil, evs_cons, sr_seq, sr_rg1, sr_rg2, sr_zip, sr_enum, ex_set, ex_unp, ex_par2, ex_par3, ex_drop, ex_app, ex_ext, ex_rem, ex_ret, ex_retV, ex_retN, ex_pass, ex_ife, ex_forr, ex_whl, ex_raise, ex_try, exs_nil, exs_cons, andK_t, andK_f, orK_t, orK_f, ixK_t, ixK_f, chK_t, chK_f, cvK_fn, ifK_t, ifK_f, forK_n, varK_s, rvK_s, unpK_s, ownK_t, lenK_t, seqK_l, seqK_t, seqK_s, zipK_l, zipK_t, enuK_l, negK_i, iscK_t, iscK_f, tryO_nx, tryO_ret, bd_ok, bd_err, bd_bad, on_ok, on_err, on_bad, th_nx, th_ret, th_err, th_bad, boolR_ok, boolR_err, intR_ok, intR_err, noErr_ok, okIf_true, b_addI, b_subI, b_mulI, b_fdI, b_mdI, b_pwI, b_shI, c_lt, c_le, c_gt, c_ge, c_scr, c_eqI, c_neI, c_neB, c_eqB, x_lst, x_tup, x_dcs, c_inS, c_niS, c_ltS, p_dictL, p_dictT, p_lenL, p_lenT, p_lenS, p_minI, p_maxI, p_isi, p_tupL, p_tupT, p_lstL, p_lstT, p_intB, p_intI, tyD, isD, view_eq, viewF_nil, viewF_cons, vw_none, vw_val, viewA_nil, viewA_cons, vA_some, vA_none, after_nil, bindS, bindTg, Option.bind_some, List.map_cons, List.map_nil, List.cons_append, List.nil_append, List.set_cons_zero, List.set_cons_succ, List.getElem?_cons_zero, List.getElem?_cons_succ, List.length_cons, List.length_nil, List.isEmpty_nil, List.isEmpty_cons, ↓reduceIte, outR_nx, outR_ret, outR_err, Bool.not_true, Bool.not_false, Bool.false_and, Bool.true_and, Bool.and_true, Bool.and_false, Bool.or_true, Bool.true_or, Bool.false_or, Bool.or_false, Bool.false_eq_true, decide_true, decide_false, at0, at1, at2, at3, nabs, Nat.reduceLT, Nat.reduceLeDiff, Nat.reduceLT, Nat.reduceAdd, Int.reduceLT, Int.reduceLE, Int.reduceNeg, lg, reduceCtorEq, Option.map_some, Option.map_none, h1, h2]
        obtain ⟨t', rfl⟩ : ∃ t', t = t' + 1 := ⟨t - 1, by omega⟩
        have e : ((t' + 1 : Nat) : Int) - 1 = (t' : Int) := by omega
        rw [e]
        exact drawn_loop C x0 x1 x2 x3 t' F (rest / 1000000) (by omega)
      · simp only [ev_var, ev_cst, ev_tup, ev_lst, ev_bin, ev_neg, ev_cmp, ev_chain, ev_isc, ev_and, ev_or, ev_not, ev_ifx, ev_ix, ev_slA, ev_slB, ev_slC, ev_call, ev_callv, ev_prim, ev_comp, ev_compf, ev_comp2, evs_nil, evs_cons, sr_seq, sr_rg1, sr_rg2, sr_zip, sr_enum, ex_set, ex_unp, ex_par2, ex_par3, ex_drop, ex_app, ex_ext, ex_rem, ex_ret, ex_retV, ex_retN, ex_pass, ex_ife, ex_forr, ex_whl, ex_raise, ex_try, exs_nil, exs_cons, andK_t, andK_f, orK_t, orK_f, ixK_t, ixK_f, chK_t, chK_f, cvK_fn, ifK_t, ifK_f, forK_n, varK_s, rvK_s, unpK_s, ownK_t, lenK_t, seqK_l, seqK_t, seqK_s, zipK_l, zipK_t, enuK_l, negK_i, iscK_t, iscK_f, tryO_nx, tryO_ret, bd_ok, bd_err, bd_bad, on_ok, on_err, on_bad, th_nx, th_ret, th_err, th_bad, boolR_ok, boolR_err, intR_ok, intR_err, noErr_ok, okIf_true, b_addI, b_subI, b_mulI, b_fdI, b_mdI, b_pwI, b_shI, c_lt, c_le, c_gt, c_ge, c_scr, c_eqI, c_neI, c_neB, c_eqB, x_lst, x_tup, x_dcs, c_inS, c_niS, c_ltS, p_dictL, p_dictT, p_lenL, p_lenT, p_lenS, p_minI, p_maxI, p_isi, p_tupL, p_tupT, p_lstL, p_lstT, p_intB, p_intI, tyD, isD, view_eq, viewF_nil, viewF_cons, vw_none, vw_val, viewA_nil, viewA_cons, vA_some, vA_none, after_nil, bindS, bindTg, Option.bind_some, List.map_cons, List.map_nil, List.cons_append, List.nil_append, List.set_cons_zero, List.set_cons_succ, List.getElem?_cons_zero, List.getElem?_cons_succ, List.length_cons, List.length_nil, List.isEmpty_nil, List.isEmpty_cons, ↓reduceIte, outR_nx, outR_ret, outR_err, Bool.not_true, Bool.not_false, Bool.false_and, Bool.true_and, Bool.and_true, Bool.and_false, Bool.or_true, Bool.true_or, Bool.false_or, Bool.or_false, Bool.false_eq_true, decide_true, decide_false, at0, at1, at2, at3, nabs, Nat.reduceLT, Nat.reduceLeDiff, Nat.reduceLT, Nat.reduceAdd, Int.reduceLT, Int.reduceLE, Int.reduceNeg, lg, reduceCtorEq, Option.map_some, Option.map_none, h1, h2]
        exact ⟨rest, t, rfl⟩
    · simp only [ev_var, ev_cst, ev_tup, ev_lst, ev_bin, ev_neg, ev_cmp, ev_chain, ev_isc, ev_and, ev_or, ev_not, ev_ifx, ev_ix, ev_slA, ev_slB, ev_slC, ev_call, ev_callv, ev_prim, ev_comp, ev_compf, ev_comp2, evs_nil, evs_cons, sr_seq, sr_rg1, sr_rg2, sr_zip, sr_enum, ex_set, ex_unp, ex_par2, ex_par3, ex_drop, ex_app, ex_ext, ex_rem, ex_ret, ex_retV, ex_retN, ex_pass, ex_ife, ex_forr, ex_whl, ex_raise, ex_try, exs_nil, exs_cons, andK_t, andK_f, orK_t, orK_f, ixK_t, ixK_f, chK_t, chK_f, cvK_fn, ifK_t, ifK_f, forK_n, varK_s, rvK_s, unpK_s, ownK_t, lenK_t, seqK_l, seqK_t, seqK_s, zipK_l, zipK_t, enuK_l, negK_i, iscK_t, iscK_f, tryO_nx, tryO_ret, bd_ok, bd_err, bd_bad, on_ok, on_err, on_bad, th_nx, th_ret, th_err, th_bad, boolR_ok, boolR_err, intR_ok, intR_err, noErr_ok, okIf_true, b_addI, b_subI, b_mulI, b_fdI, b_mdI, b_pwI, b_shI, c_lt, c_le, c_gt, c_ge, c_scr, c_eqI, c_neI, c_neB, c_eqB, x_lst, x_tup, x_dcs, c_inS, c_niS, c_ltS, p_dictL, p_dictT, p_lenL, p_lenT, p_lenS, p_minI, p_maxI, p_isi, p_tupL, p_tupT, p_lstL, p_lstT, p_intB, p_intI, tyD, isD, view_eq, viewF_nil, viewF_cons, vw_none, vw_val, viewA_nil, viewA_cons, vA_some, vA_none, after_nil, bindS, bindTg, Option.bind_some, List.map_cons, List.map_nil, List.cons_append, List.nil_append, List.set_cons_zero, List.set_cons_succ, List.getElem?_cons_zero, List.getElem?_cons_succ, List.length_cons, List.length_nil, List.isEmpty_nil, List.isEmpty_cons, ↓reduceIte, outR_nx, outR_ret, outR_err, Bool.not_true, Bool.not_false, Bool.false_and, Bool.true_and, Bool.and_true, Bool.and_false, Bool.or_true, Bool.true_or, Bool.false_or, Bool.or_false, Bool.false_eq_true, decide_true, decide_false, at0, at1, at2, at3, nabs, Nat.reduceLT, Nat.reduceLeDiff, Nat.reduceLT, Nat.reduceAdd, Int.reduceLT, Int.reduceLE, Int.reduceNeg, lg, reduceCtorEq, Option.map_some, Option.map_none, h1]
      exact ⟨rest, t, rfl⟩
theorem drawn_ok (C : Orc) (ns : List Int) (k m : Int) (hk : 0 ≤ k) (hm : 0 < m) (hl : ns.length ≤ 63) : ∃ r : Int, 0 ≤ r ∧ r < m ∧ runF C fDrawn [.scr ns, .int k, .int m] = .ok (.int r, false) := by
  have tail := fun c x4 x5 => drawn_tail C ns k m c x4 x5 hm
  rw [runF_eq rfl]
  simp only [fDrawn]
  generalize eT : (Ss.cons (.set 3 false (.bin .mod (.bin .add (.bin .mul (.bin .mod (.var 3) (.cst (.int (2147483563)))) (.cst (.int (69069)))) (.bin .mul (.cst (.int (104723))) (.bin .add (.var 1) (.cst (.int (1)))))) (.cst (.int (2147483563)))) []) _) = T
  rw [eT] at tail
  have hm' := decide_eq_true hm
  by_cases he : ns = []
  · subst he
    obtain ⟨r, h1, h2, h3⟩ := tail (7 * k) none none
    refine ⟨r, h1, h2, ?_⟩
    simp only [ev_var, ev_cst, ev_tup, ev_lst, ev_bin, ev_neg, ev_cmp, ev_chain, ev_isc, ev_and, ev_or, ev_not, ev_ifx, ev_ix, ev_slA, ev_slB, ev_slC, ev_call, ev_callv, ev_prim, ev_comp, ev_compf, ev_comp2, evs_nil, evs_cons, sr_seq, sr_rg1, sr_rg2, sr_zip, sr_enum, ex_set, ex_unp, ex_par2, ex_par3, ex_drop, ex_app, ex_ext, ex_rem, ex_ret, ex_retV, ex_retN, ex_pass, ex_ife, ex_forr, ex_whl, ex_raise, ex_try, exs_nil, exs_cons, andK_t, andK_f, orK_t, orK_f, ixK_t, ixK_f, chK_t, chK_f, cvK_fn, ifK_t, ifK_f, forK_n, varK_s, rvK_s, unpK_s, ownK_t, lenK_t, seqK_l, seqK_t, seqK_s, zipK_l, zipK_t, enuK_l, negK_i, iscK_t, iscK_f, tryO_nx, tryO_ret, bd_ok, bd_err, bd_bad, on_ok, on_err, on_bad, th_nx, th_ret, th_err, th_bad, boolR_ok, boolR_err, intR_ok, intR_err, noErr_ok, okIf_true, b_addI, b_subI, b_mulI, b_fdI, b_mdI, b_pwI, b_shI, c_lt, c_le, c_gt, c_ge, c_scr, c_eqI, c_neI, c_neB, c_eqB, x_lst, x_tup, x_dcs, c_inS, c_niS, c_ltS, p_dictL, p_dictT, p_lenL, p_lenT, p_lenS, p_minI, p_maxI, p_isi, p_tupL, p_tupT, p_lstL, p_lstT, p_intB, p_intI, tyD, isD, view_eq, viewF_nil, viewF_cons, vw_none, vw_val, viewA_nil, viewA_cons, vA_some, vA_none, after_nil, bindS, bindTg, Option.bind_some, List.map_cons, List.map_nil, List.cons_append, List.nil_append, List.set_cons_zero, List.set_cons_succ, List.getElem?_cons_zero, List.getElem?_cons_succ, List.length_cons, List.length_nil, List.isEmpty_nil, List.isEmpty_cons, ↓reduceIte, outR_nx, outR_ret, outR_err, Bool.not_true, Bool.not_false, Bool.false_and, Bool.true_and, Bool.and_true, Bool.and_false, Bool.or_true, Bool.true_or, Bool.false_or, Bool.or_false, Bool.false_eq_true, decide_true, decide_false, at0, at1, at2, at3, nabs, Nat.reduceLT, Nat.reduceLeDiff, Nat.reduceLT, Nat.reduceAdd, Int.reduceLT, Int.reduceLE, Int.reduceNeg, lg, reduceCtorEq, Option.map_some, Option.map_none, List.replicate_succ, List.replicate_zero]
    rw [h3]
    rfl
  · have hL : (0 : Int) < ns.length := by
      have := List.length_pos_iff.mpr he
      omega
    have hE : ns.isEmpty = false := by
      cases ns with
      | nil => exact absurd rfl he
      | cons _ _ => rfl
    obtain ⟨z, hz⟩ : ∃ z, atI ns (k % ns.length) = some z := by
      have a1 := Int.emod_nonneg k (show (ns.length : Int) ≠ 0 by omega)
      have a2 := Int.emod_lt_of_pos k hL
      obtain ⟨j, hj⟩ := Int.eq_ofNat_of_zero_le a1
      rw [hj] at a2 ⊢
      have hj' : j < ns.length := by omega
      exact ⟨ns[j], atI_nat (List.getElem?_eq_getElem hj')⟩
    have hx : ixD (.scr ns) (.int (k % ns.length)) = .ok (.int z, false) := by rw [x_scr, hz]
    have hg : decide ((ns.length : Int).natAbs.log2 < 9000) = true := lg _ (by rw [Int.natAbs_natCast]; omega)
    have e18 : ((10 : Int) ^ (18 : Int).toNat) = 1000000000000000000 := by decide
    simp only [ev_var, ev_cst, ev_tup, ev_lst, ev_bin, ev_neg, ev_cmp, ev_chain, ev_isc, ev_and, ev_or, ev_not, ev_ifx, ev_ix, ev_slA, ev_slB, ev_slC, ev_call, ev_callv, ev_prim, ev_comp, ev_compf, ev_comp2, evs_nil, evs_cons, sr_seq, sr_rg1, sr_rg2, sr_zip, sr_enum, ex_set, ex_unp, ex_par2, ex_par3, ex_drop, ex_app, ex_ext, ex_rem, ex_ret, ex_retV, ex_retN, ex_pass, ex_ife, ex_forr, ex_whl, ex_raise, ex_try, exs_nil, exs_cons, andK_t, andK_f, orK_t, orK_f, ixK_t, ixK_f, chK_t, chK_f, cvK_fn, ifK_t, ifK_f, forK_n, varK_s, rvK_s, unpK_s, ownK_t, lenK_t, seqK_l, seqK_t, seqK_s, zipK_l, zipK_t, enuK_l, negK_i, iscK_t, iscK_f, tryO_nx, tryO_ret, bd_ok, bd_err, bd_bad, on_ok, on_err, on_bad, th_nx, th_ret, th_err, th_bad, boolR_ok, boolR_err, intR_ok, intR_err, noErr_ok, okIf_true, b_addI, b_subI, b_mulI, b_fdI, b_mdI, b_pwI, b_shI, c_lt, c_le, c_gt, c_ge, c_scr, c_eqI, c_neI, c_neB, c_eqB, x_lst, x_tup, x_dcs, c_inS, c_niS, c_ltS, p_dictL, p_dictT, p_lenL, p_lenT, p_lenS, p_minI, p_maxI, p_isi, p_tupL, p_tupT, p_lstL, p_lstT, p_intB, p_intI, tyD, isD, view_eq, viewF_nil, viewF_cons, vw_none, vw_val, viewA_nil, viewA_cons, vA_some, vA_none, after_nil, bindS, bindTg, Option.bind_some, List.map_cons, List.map_nil, List.cons_append, List.nil_append, List.set_cons_zero, List.set_cons_succ, List.getElem?_cons_zero, List.getElem?_cons_succ, List.length_cons, List.length_nil, List.isEmpty_nil, List.isEmpty_cons, ↓reduceIte, outR_nx, outR_ret, outR_err, Bool.not_true, Bool.not_false, Bool.false_and, Bool.true_and, Bool.and_true, Bool.and_false, Bool.or_true, Bool.true_or, Bool.false_or, Bool.or_false, Bool.false_eq_true, decide_true, decide_false, at0, at1, at2, at3, nabs, Nat.reduceLT, Nat.reduceLeDiff, Nat.reduceLT, Nat.reduceAdd, Int.reduceLT, Int.reduceLE, Int.reduceNeg, lg, reduceCtorEq, Option.map_some, Option.map_none, List.replicate_succ, List.replicate_zero, hE, hx, hL, hg, e18]
    by_cases h1 : (1000000000000000000 : Int) ≤ z
    · by_cases h2 : k / ns.length < 60
      · simp only [ev_var, ev_cst, ev_tup, ev_lst, ev_bin, ev_neg, ev_cmp, ev_chain, ev_isc, ev_and, ev_or, ev_not, ev_ifx, ev_ix, ev_slA, ev_slB, ev_slC, ev_call, ev_callv, ev_prim, ev_comp, ev_compf, ev_comp2, evs_nil, evs_cons, sr_seq, sr_rg1, sr_rg2, sr_zip, sr_enum, ex_set, ex_unp, ex_par2, ex_par3, ex_drop, ex_app, ex_ext, ex_rem, ex_ret, ex_retV, ex_retN, ex_pass, ex_ife, ex_forr, ex_whl, ex_raise, ex_try, exs_nil, exs_cons, andK_t, andK_f, orK_t, orK_f, ixK_t, ixK_f, chK_t, chK_f, cvK_fn, ifK_t, ifK_f, forK_n, varK_s, rvK_s, unpK_s, ownK_t, lenK_t, seqK_l, seqK_t, seqK_s, zipK_l, zipK_t, enuK_l, negK_i, iscK_t, iscK_f, tryO_nx, tryO_ret, bd_ok, bd_err, bd_bad, on_ok, on_err, on_bad, th_nx, th_ret, th_err, th_bad, boolR_ok, boolR_err, intR_ok, intR_err, noErr_ok, okIf_true, b_addI, b_subI, b_mulI, b_fdI, b_mdI, b_pwI, b_shI, c_lt, c_le, c_gt, c_ge, c_scr, c_eqI, c_neI, c_neB, c_eqB, x_lst, x_tup, x_dcs, c_inS, c_niS, c_ltS, p_dictL, p_dictT, p_lenL, p_lenT, p_lenS, p_minI, p_maxI, p_isi, p_tupL, p_tupT, p_lstL, p_lstT, p_intB, p_intI, tyD, isD, view_eq, viewF_nil, viewF_cons, vw_none, vw_val, viewA_nil, viewA_cons, vA_some, vA_none, after_nil, bindS, bindTg, Option.bind_some, List.map_cons, List.map_nil, List.cons_append, List.nil_append, List.set_cons_zero, List.set_cons_succ, List.getElem?_cons_zero, List.getElem?_cons_succ, List.length_cons, List.length_nil, List.isEmpty_nil, List.isEmpty_cons, ↓reduceIte, outR_nx, outR_ret, outR_err, Bool.not_true, Bool.not_false, Bool.false_and, Bool.true_and, Bool.and_true, Bool.and_false, Bool.or_true, Bool.true_or, Bool.false_or, Bool.or_false, Bool.false_eq_true, decide_true, decide_false, at0, at1, at2, at3, nabs, Nat.reduceLT, Nat.reduceLeDiff, Nat.reduceLT, Nat.reduceAdd, Int.reduceLT, Int.reduceLE, Int.reduceNeg, lg, reduceCtorEq, Option.map_some, Option.map_none, h1, h2, e18, hL, hg]
        obtain ⟨t, ht⟩ := Int.eq_ofNat_of_zero_le (Int.ediv_nonneg hk (Int.le_of_lt hL))
        rw [ht]
        obtain ⟨r', t', hw⟩ := drawn_loop C (some (false, .scr ns)) (some (false, .int k)) (some (false, .int m)) (some (false, .int z)) t whFuel (z / 1000000000000000000) (by unfold whFuel; omega)
        rw [hw]
        by_cases h3 : 0 < r'
        · simp only [ev_var, ev_cst, ev_tup, ev_lst, ev_bin, ev_neg, ev_cmp, ev_chain, ev_isc, ev_and, ev_or, ev_not, ev_ifx, ev_ix, ev_slA, ev_slB, ev_slC, ev_call, ev_callv, ev_prim, ev_comp, ev_compf, ev_comp2, evs_nil, evs_cons, sr_seq, sr_rg1, sr_rg2, sr_zip, sr_enum, ex_set, ex_unp, ex_par2, ex_par3, ex_drop, ex_app, ex_ext, ex_rem, ex_ret, ex_retV, ex_retN, ex_pass, ex_ife, ex_forr, ex_whl, ex_raise, ex_try, exs_nil, exs_cons, andK_t, andK_f, orK_t, orK_f, ixK_t, ixK_f, chK_t, chK_f, cvK_fn, ifK_t, ifK_f, forK_n, varK_s, rvK_s, unpK_s, ownK_t, lenK_t, seqK_l, seqK_t, seqK_s, zipK_l, zipK_t, enuK_l, negK_i, iscK_t, iscK_f, tryO_nx, tryO_ret, bd_ok, bd_err, bd_bad, on_ok, on_err, on_bad, th_nx, th_ret, th_err, th_bad, boolR_ok, boolR_err, intR_ok, intR_err, noErr_ok, okIf_true, b_addI, b_subI, b_mulI, b_fdI, b_mdI, b_pwI, b_shI, c_lt, c_le, c_gt, c_ge, c_scr, c_eqI, c_neI, c_neB, c_eqB, x_lst, x_tup, x_dcs, c_inS, c_niS, c_ltS, p_dictL, p_dictT, p_lenL, p_lenT, p_lenS, p_minI, p_maxI, p_isi, p_tupL, p_tupT, p_lstL, p_lstT, p_intB, p_intI, tyD, isD, view_eq, viewF_nil, viewF_cons, vw_none, vw_val, viewA_nil, viewA_cons, vA_some, vA_none, after_nil, bindS, bindTg, Option.bind_some, List.map_cons, List.map_nil, List.cons_append, List.nil_append, List.set_cons_zero, List.set_cons_succ, List.getElem?_cons_zero, List.getElem?_cons_succ, List.length_cons, List.length_nil, List.isEmpty_nil, List.isEmpty_cons, ↓reduceIte, outR_nx, outR_ret, outR_err, Bool.not_true, Bool.not_false, Bool.false_and, Bool.true_and, Bool.and_true, Bool.and_false, Bool.or_true, Bool.true_or, Bool.false_or, Bool.or_false, Bool.false_eq_true, decide_true, decide_false, at0, at1, at2, at3, nabs, Nat.reduceLT, Nat.reduceLeDiff, Nat.reduceLT, Nat.reduceAdd, Int.reduceLT, Int.reduceLE, Int.reduceNeg, lg, reduceCtorEq, Option.map_some, Option.map_none, h3, hm]
          exact ⟨_, Int.emod_nonneg _ (by omega), Int.emod_lt_of_pos _ hm, rfl⟩
        · simp only [ev_var, ev_cst, ev_tup, ev_lst, ev_bin, ev_neg, ev_cmp, ev_chain, ev_isc, ev_and, ev_or, ev_not, ev_ifx, ev_ix, ev_slA, ev_slB, ev_slC, ev_call, ev_callv, ev_prim, ev_comp, ev_compf, ev_comp2, evs_nil, evs_cons, sr_seq, sr_rg1, sr_rg2, sr_zip, sr_enum, ex_set, ex_unp, ex_par2, ex_par3, ex_drop, ex_app, ex_ext, ex_rem, ex_ret, ex_retV, ex_retN, ex_pass, ex_ife, ex_forr, ex_whl, ex_raise, ex_try, exs_nil, exs_cons, andK_t, andK_f, orK_t, orK_f, ixK_t, ixK_f, chK_t, chK_f, cvK_fn, ifK_t, ifK_f, forK_n, varK_s, rvK_s, unpK_s, ownK_t, lenK_t, seqK_l, seqK_t, seqK_s, zipK_l, zipK_t, enuK_l, negK_i, iscK_t, iscK_f, tryO_nx, tryO_ret, bd_ok, bd_err, bd_bad, on_ok, on_err, on_bad, th_nx, th_ret, th_err, th_bad, boolR_ok, boolR_err, intR_ok, intR_err, noErr_ok, okIf_true, b_addI, b_subI, b_mulI, b_fdI, b_mdI, b_pwI, b_shI, c_lt, c_le, c_gt, c_ge, c_scr, c_eqI, c_neI, c_neB, c_eqB, x_lst, x_tup, x_dcs, c_inS, c_niS, c_ltS, p_dictL, p_dictT, p_lenL, p_lenT, p_lenS, p_minI, p_maxI, p_isi, p_tupL, p_tupT, p_lstL, p_lstT, p_intB, p_intI, tyD, isD, view_eq, viewF_nil, viewF_cons, vw_none, vw_val, viewA_nil, viewA_cons, vA_some, vA_none, after_nil, bindS, bindTg, Option.bind_some, List.map_cons, List.map_nil, List.cons_append, List.nil_append, List.set_cons_zero, List.set_cons_succ, List.getElem?_cons_zero, List.getElem?_cons_succ, List.length_cons, List.length_nil, List.isEmpty_nil, List.isEmpty_cons, ↓reduceIte, outR_nx, outR_ret, outR_err, Bool.not_true, Bool.not_false, Bool.false_and, Bool.true_and, Bool.and_true, Bool.and_false, Bool.or_true, Bool.true_or, Bool.false_or, Bool.or_false, Bool.false_eq_true, decide_true, decide_false, at0, at1, at2, at3, nabs, Nat.reduceLT, Nat.reduceLeDiff, Nat.reduceLT, Nat.reduceAdd, Int.reduceLT, Int.reduceLE, Int.reduceNeg, lg, reduceCtorEq, Option.map_some, Option.map_none, h3, hL, hg]
          obtain ⟨r, a1, a2, a3⟩ := tail (z + 6553 * (k / ns.length)) (some (false, .int t')) (some (false, .int r'))
          exact ⟨r, a1, a2, by rw [a3]; rfl⟩
      · simp only [ev_var, ev_cst, ev_tup, ev_lst, ev_bin, ev_neg, ev_cmp, ev_chain, ev_isc, ev_and, ev_or, ev_not, ev_ifx, ev_ix, ev_slA, ev_slB, ev_slC, ev_call, ev_callv, ev_prim, ev_comp, ev_compf, ev_comp2, evs_nil, evs_cons, sr_seq, sr_rg1, sr_rg2, sr_zip, sr_enum, ex_set, ex_unp, ex_par2, ex_par3, ex_drop, ex_app, ex_ext, ex_rem, ex_ret, ex_retV, ex_retN, ex_pass, ex_ife, ex_forr, ex_whl, ex_raise, ex_try, exs_nil, exs_cons, andK_t, andK_f, orK_t, orK_f, ixK_t, ixK_f, chK_t, chK_f, cvK_fn, ifK_t, ifK_f, forK_n, varK_s, rvK_s, unpK_s, ownK_t, lenK_t, seqK_l, seqK_t, seqK_s, zipK_l, zipK_t, enuK_l, negK_i, iscK_t, iscK_f, tryO_nx, tryO_ret, bd_ok, bd_err, bd_bad, on_ok, on_err, on_bad, th_nx, th_ret, th_err, th_bad, boolR_ok, boolR_err, intR_ok, intR_err, noErr_ok, okIf_true, b_addI, b_subI, b_mulI, b_fdI, b_mdI, b_pwI, b_shI, c_lt, c_le, c_gt, c_ge, c_scr, c_eqI, c_neI, c_neB, c_eqB, x_lst, x_tup, x_dcs, c_inS, c_niS, c_ltS, p_dictL, p_dictT, p_lenL, p_lenT, p_lenS, p_minI, p_maxI, p_isi, p_tupL, p_tupT, p_lstL, p_lstT, p_intB, p_intI, tyD, isD, view_eq, viewF_nil, viewF_cons, vw_none, vw_val, viewA_nil, viewA_cons, vA_some, vA_none, after_nil, bindS, bindTg, Option.bind_some, List.map_cons, List.map_nil, List.cons_append, List.nil_append, List.set_cons_zero, List.set_cons_succ, List.getElem?_cons_zero, List.getElem?_cons_succ, List.length_cons, List.length_nil, List.isEmpty_nil, List.isEmpty_cons, ↓reduceIte, outR_nx, outR_ret, outR_err, Bool.not_true, Bool.not_false, Bool.false_and, Bool.true_and, Bool.and_true, Bool.and_false, Bool.or_true, Bool.true_or, Bool.false_or, Bool.or_false, Bool.false_eq_true, decide_true, decide_false, at0, at1, at2, at3, nabs, Nat.reduceLT, Nat.reduceLeDiff, Nat.reduceLT, Nat.reduceAdd, Int.reduceLT, Int.reduceLE, Int.reduceNeg, lg, reduceCtorEq, Option.map_some, Option.map_none, h1, h2, e18, hL, hg]
        obtain ⟨r, a1, a2, a3⟩ := tail (z + 6553 * (k / ns.length)) (some (false, .int (k / ns.length))) none
        exact ⟨r, a1, a2, by rw [a3]; rfl⟩
    · simp only [ev_var, ev_cst, ev_tup, ev_lst, ev_bin, ev_neg, ev_cmp, ev_chain, ev_isc, ev_and, ev_or, ev_not, ev_ifx, ev_ix, ev_slA, ev_slB, ev_slC, ev_call, ev_callv, ev_prim, ev_comp, ev_compf, ev_comp2, evs_nil, evs_cons, sr_seq, sr_rg1, sr_rg2, sr_zip, sr_enum, ex_set, ex_unp, ex_par2, ex_par3, ex_drop, ex_app, ex_ext, ex_rem, ex_ret, ex_retV, ex_retN, ex_pass, ex_ife, ex_forr, ex_whl, ex_raise, ex_try, exs_nil, exs_cons, andK_t, andK_f, orK_t, orK_f, ixK_t, ixK_f, chK_t, chK_f, cvK_fn, ifK_t, ifK_f, forK_n, varK_s, rvK_s, unpK_s, ownK_t, lenK_t, seqK_l, seqK_t, seqK_s, zipK_l, zipK_t, enuK_l, negK_i, iscK_t, iscK_f, tryO_nx, tryO_ret, bd_ok, bd_err, bd_bad, on_ok, on_err, on_bad, th_nx, th_ret, th_err, th_bad, boolR_ok, boolR_err, intR_ok, intR_err, noErr_ok, okIf_true, b_addI, b_subI, b_mulI, b_fdI, b_mdI, b_pwI, b_shI, c_lt, c_le, c_gt, c_ge, c_scr, c_eqI, c_neI, c_neB, c_eqB, x_lst, x_tup, x_dcs, c_inS, c_niS, c_ltS, p_dictL, p_dictT, p_lenL, p_lenT, p_lenS, p_minI, p_maxI, p_isi, p_tupL, p_tupT, p_lstL, p_lstT, p_intB, p_intI, tyD, isD, view_eq, viewF_nil, viewF_cons, vw_none, vw_val, viewA_nil, viewA_cons, vA_some, vA_none, after_nil, bindS, bindTg, Option.bind_some, List.map_cons, List.map_nil, List.cons_append, List.nil_append, List.set_cons_zero, List.set_cons_succ, List.getElem?_cons_zero, List.getElem?_cons_succ, List.length_cons, List.length_nil, List.isEmpty_nil, List.isEmpty_cons, ↓reduceIte, outR_nx, outR_ret, outR_err, Bool.not_true, Bool.not_false, Bool.false_and, Bool.true_and, Bool.and_true, Bool.and_false, Bool.or_true, Bool.true_or, Bool.false_or, Bool.or_false, Bool.false_eq_true, decide_true, decide_false, at0, at1, at2, at3, nabs, Nat.reduceLT, Nat.reduceLeDiff, Nat.reduceLT, Nat.reduceAdd, Int.reduceLT, Int.reduceLE, Int.reduceNeg, lg, reduceCtorEq, Option.map_some, Option.map_none, h1, e18, hL, hg]
      obtain ⟨r, a1, a2, a3⟩ := tail (z + 6553 * (k / ns.length)) (some (false, .int (k / ns.length))) none
      exact ⟨r, a1, a2, by rw [a3]; rfl⟩

end SS

namespace Lw
open PySem PySem.Spec PyProof.Rows L2 SS
def top (i : Nat) : Stmt := PySem.Challenge.pw_safesums_k50_expressions.main.body.getD i (.Pass ⟨0, 0, 0, 0⟩)
abbrev s0 : Stmt := top 6
def t0 : FT := { nm := "is_integer", st := s0, N := ["value"], ps := ["value"], M := [] }
abbrev s1 : Stmt := top 7
def t1 : FT := { nm := "is_int", st := s1, N := ["value", "least", "most"], ps := ["value", "least", "most"], M := [] }
abbrev s2 : Stmt := top 10
def t2 : FT := { nm := "is_range", st := s2, N := ["value", "part"], ps := ["value"], M := [] }
abbrev s3 : Stmt := top 11
def t3 : FT := { nm := "find_products", st := s3, N := ["one", "other", "found", "left", "right"], ps := ["one", "other"], M := [] }
abbrev s4 : Stmt := top 20
def t4 : FT := { nm := "is_leaf", st := s4, N := ["value"], ps := ["value"], M := [] }
abbrev s5 : Stmt := top 21
def t5 : FT := { nm := "count_leaves", st := s5, N := ["value", "most", "left"], ps := ["value", "most"], M := [] }
abbrev s6 : Stmt := top 22
def t6 : FT := { nm := "is_expression", st := s6, N := ["candidate"], ps := ["candidate"], M := [] }
abbrev s7 : Stmt := top 23
def t7 : FT := { nm := "check_expression", st := s7, N := ["value"], ps := ["value"], M := [] }
abbrev s8 : Stmt := top 24
def t8 : FT := { nm := "names_in", st := s8, N := ["expression"], ps := ["expression"], M := [] }
abbrev s9 : Stmt := top 25
def t9 : FT := { nm := "is_box_row", st := s9, N := ["value"], ps := ["value"], M := [] }
abbrev s10 : Stmt := top 26
def t10 : FT := { nm := "rises_by_names", st := s10, N := ["rows", "one", "other"], ps := ["rows"], M := [] }
abbrev s11 : Stmt := top 27
def t11 : FT := { nm := "is_box", st := s11, N := ["candidate", "row"], ps := ["candidate"], M := [] }
abbrev s12 : Stmt := top 28
def t12 : FT := { nm := "fits", st := s12, N := ["expression", "rows", "known", "row", "name"], ps := ["expression", "rows"], M := [] }
abbrev s13 : Stmt := top 29
def t13 : FT := { nm := "check_box", st := s13, N := ["expression", "value"], ps := ["expression", "value"], M := [] }
abbrev s14 : Stmt := top 30
def t14 : FT := { nm := "is_point_row", st := s14, N := ["value"], ps := ["value"], M := [] }
abbrev s15 : Stmt := top 31
def t15 : FT := { nm := "find_value", st := s15, N := ["expression", "known", "left", "right"], ps := ["expression", "known"], M := [] }
abbrev s16 : Stmt := top 32
def t16 : FT := { nm := "value_at", st := s16, N := ["expression", "point", "row"], ps := ["expression", "point"], M := [] }
abbrev s17 : Stmt := top 33
def t17 : FT := { nm := "find_rough", st := s17, N := ["expression", "known", "left", "right"], ps := ["expression", "known"], M := [] }
abbrev s18 : Stmt := top 34
def t18 : FT := { nm := "ranges_of", st := s18, N := ["box", "row"], ps := ["box"], M := [] }
abbrev s19 : Stmt := top 35
def t19 : FT := { nm := "rough_range", st := s19, N := ["expression", "box"], ps := ["expression", "box"], M := [] }
abbrev s20 : Stmt := top 37
def t20 : FT := { nm := "_law_pick", st := s20, N := ["_law_script", "_law_k", "_law_many", "_law_cell", "_law_rest", "_law_again", "_law_drawn_here"], ps := ["_law_script", "_law_k", "_law_many"], M := [] }
abbrev s21 : Stmt := top 38
def t21 : FT := { nm := "_law_leaf", st := s21, N := ["_law_script", "_law_place"], ps := ["_law_script", "_law_place"], M := [] }
abbrev s22 : Stmt := top 39
def t22 : FT := { nm := "_law_drawn", st := s22, N := ["_law_script", "_law_place", "_law_most", "_law_rows", "_law_i", "_law_at", "_law_sign"], ps := ["_law_script", "_law_place", "_law_most"], M := [] }
abbrev s23 : Stmt := top 40
def t23 : FT := { nm := "_law_box", st := s23, N := ["_law_script", "_law_place", "_law_wide", "_law_found", "_law_i", "_law_low"], ps := ["_law_script", "_law_place", "_law_wide"], M := [3] }
abbrev s24 : Stmt := top 41
def t24 : FT := { nm := "_law_value", st := s24, N := ["_law_expression", "_law_known", "_law_one", "_law_other"], ps := ["_law_expression", "_law_known"], M := [] }
abbrev s25 : Stmt := top 42
def t25 : FT := { nm := "_law_judged", st := s25, N := ["_law_drawn_here", "_law_box_here", "_law_var", "_law_six", "_law_i", "_law_good", "_law_bad", "_law_boxes", "_law_value_here"], ps := ["_law_drawn_here", "_law_box_here"], M := [5, 6, 7] }
abbrev s26 : Stmt := top 43
def t26 : FT := { nm := "_law_rough", st := s26, N := ["_law_expression", "_law_known", "_law_one", "_law_other", "_law_rows"], ps := ["_law_expression", "_law_known"], M := [] }
abbrev s27 : Stmt := top 44
def t27 : FT := { nm := "law", st := s27, N := ["_law_script", "_law_i", "_law_drawn_here", "_law_box_here", "_law_row", "_law_j", "_law_at", "_law_point", "_law_name", "_law_low", "_law_high"], ps := ["_law_script"], M := [] }
def tb : List FT := [t0, t1, t2, t3, t4, t5, t6, t7, t8, t9, t10, t11, t12, t13, t14, t15, t16, t17, t18, t19, t20, t21, t22, t23, t24, t25, t26, t27]
def hd : HD := { gt := [(("is_integer" : Str), GV.fn 0), (("is_int" : Str), GV.fn 1), (("is_range" : Str), GV.fn 2), (("find_products" : Str), GV.fn 3), (("is_leaf" : Str), GV.fn 4), (("count_leaves" : Str), GV.fn 5), (("is_expression" : Str), GV.fn 6), (("check_expression" : Str), GV.fn 7), (("names_in" : Str), GV.fn 8), (("is_box_row" : Str), GV.fn 9), (("rises_by_names" : Str), GV.fn 10), (("is_box" : Str), GV.fn 11), (("fits" : Str), GV.fn 12), (("check_box" : Str), GV.fn 13), (("is_point_row" : Str), GV.fn 14), (("find_value" : Str), GV.fn 15), (("value_at" : Str), GV.fn 16), (("find_rough" : Str), GV.fn 17), (("ranges_of" : Str), GV.fn 18), (("rough_range" : Str), GV.fn 19), (("_law_pick" : Str), GV.fn 20), (("_law_leaf" : Str), GV.fn 21), (("_law_drawn" : Str), GV.fn 22), (("_law_box" : Str), GV.fn 23), (("_law_value" : Str), GV.fn 24), (("_law_judged" : Str), GV.fn 25), (("_law_rough" : Str), GV.fn 26), (("law" : Str), GV.fn 27), (("MAX_TERM" : Str), GV.dat (.int 9999)), (("CONST" : Str), GV.dat (.str "const")), (("VAR" : Str), GV.dat (.str "var")), (("PLUS" : Str), GV.dat (.str "+")), (("MINUS" : Str), GV.dat (.str "-")), (("TIMES" : Str), GV.dat (.str "*")), (("NAMES" : Str), GV.dat (.str "abcd")), (("MAX_LEAVES" : Str), GV.dat (.int 6)), (("InvalidExpression" : Str), GV.cls 0), (("InvalidPoint" : Str), GV.cls 1), (("InvalidBox" : Str), GV.cls 2), (("all" : Str), GV.blt), (("any" : Str), GV.blt), (("bool" : Str), GV.blt), (("dict" : Str), GV.blt), (("int" : Str), GV.blt), (("isinstance" : Str), GV.blt), (("len" : Str), GV.blt), (("list" : Str), GV.blt), (("max" : Str), GV.blt), (("min" : Str), GV.blt), (("range" : Str), GV.blt), (("str" : Str), GV.blt), (("tuple" : Str), GV.blt), (("zip" : Str), GV.blt)], nc := 3, tr := false }
def f0 : Fn := { ar := 1, ns := 1, body :=
    (.cons (.ret (.and (.prim (.isi .int) (.cons (.var 0) .nil)) (.not (.prim (.isi .bool) (.cons (.var 0) .nil)))))
    .nil) }
def f1 : Fn := { ar := 3, ns := 3, body :=
    (.cons (.ret (.and (.call 0 (.cons (.var 0) .nil)) (.chain .le .le (.var 1) (.var 0) (.var 2))))
    .nil) }
def f2 : Fn := { ar := 1, ns := 2, body :=
    (.cons (.ife (.or (.not (.prim (.isi .tuple) (.cons (.var 0) .nil))) (.cmp .ne (.prim .len (.cons (.var 0) .nil)) (.cst (.int (2))))) (.cons (.ret (.cst (.bl false)))
    .nil) .nil)
    (.cons (.ret (.and (.prim .all (.cons (.comp (.call 1 (.cons (.var 1) (.cons (.bin .sub (.cst (.int (0))) (.cst (.int (9999)))) (.cons (.cst (.int (9999))) .nil)))) (.nm 1) (.seq (.var 0)) [1]) .nil)) (.cmp .le (.ix (.var 0) (.cst (.int (0)))) (.ix (.var 0) (.cst (.int (1)))))))
    .nil)) }
def f3 : Fn := { ar := 2, ns := 5, body :=
    (.cons (.set 2 false (.comp2 (.bin .mul (.var 3) (.var 4)) (.nm 3) (.seq (.var 0)) (.nm 4) (.seq (.var 1)) [3, 4] [4]) [])
    (.cons (.ret (.tup (.cons (.prim .min (.cons (.var 2) .nil)) (.cons (.prim .max (.cons (.var 2) .nil)) .nil))))
    .nil)) }
def f4 : Fn := { ar := 1, ns := 1, body :=
    (.cons (.ife (.or (.not (.prim (.isi .tuple) (.cons (.var 0) .nil))) (.or (.cmp .ne (.prim .len (.cons (.var 0) .nil)) (.cst (.int (2)))) (.not (.prim (.isi .str) (.cons (.ix (.var 0) (.cst (.int (0)))) .nil))))) (.cons (.ret (.cst (.bl false)))
    .nil) .nil)
    (.cons (.ife (.cmp .eq (.ix (.var 0) (.cst (.int (0)))) (.cst (.str "var"))) (.cons (.ret (.and (.prim (.isi .str) (.cons (.ix (.var 0) (.cst (.int (1)))) .nil)) (.and (.cmp .eq (.prim .len (.cons (.ix (.var 0) (.cst (.int (1)))) .nil)) (.cst (.int (1)))) (.cmp .isin (.ix (.var 0) (.cst (.int (1)))) (.cst (.str "abcd"))))))
    .nil) .nil)
    (.cons (.ret (.and (.cmp .eq (.ix (.var 0) (.cst (.int (0)))) (.cst (.str "const"))) (.call 1 (.cons (.ix (.var 0) (.cst (.int (1)))) (.cons (.bin .sub (.cst (.int (0))) (.cst (.int (9999)))) (.cons (.cst (.int (9999))) .nil))))))
    .nil))) }
def f5 : Fn := { ar := 2, ns := 3, body :=
    (.cons (.ife (.call 4 (.cons (.var 0) .nil)) (.cons (.ret (.cst (.int (1))))
    .nil) .nil)
    (.cons (.ife (.or (.cmp .lt (.var 1) (.cst (.int (2)))) (.or (.not (.prim (.isi .tuple) (.cons (.var 0) .nil))) (.or (.cmp .ne (.prim .len (.cons (.var 0) .nil)) (.cst (.int (3)))) (.not (.prim (.isi .str) (.cons (.ix (.var 0) (.cst (.int (0)))) .nil)))))) (.cons (.ret (.bin .add (.var 1) (.cst (.int (1)))))
    .nil) .nil)
    (.cons (.ife (.cmp .notin (.ix (.var 0) (.cst (.int (0)))) (.tup (.cons (.cst (.str "+")) (.cons (.cst (.str "-")) (.cons (.cst (.str "*")) .nil))))) (.cons (.ret (.bin .add (.var 1) (.cst (.int (1)))))
    .nil) .nil)
    (.cons (.set 2 false (.call 5 (.cons (.ix (.var 0) (.cst (.int (1)))) (.cons (.bin .sub (.var 1) (.cst (.int (1)))) .nil))) [])
    (.cons (.ret (.ifx (.cmp .lt (.var 2) (.var 1)) (.bin .add (.var 2) (.call 5 (.cons (.ix (.var 0) (.cst (.int (2)))) (.cons (.bin .sub (.var 1) (.var 2)) .nil)))) (.bin .add (.var 1) (.cst (.int (1))))))
    .nil))))) }
def f6 : Fn := { ar := 1, ns := 1, body :=
    (.cons (.ret (.cmp .le (.call 5 (.cons (.var 0) (.cons (.cst (.int (6))) .nil))) (.cst (.int (6)))))
    .nil) }
def f7 : Fn := { ar := 1, ns := 1, body :=
    (.cons (.ife (.not (.call 6 (.cons (.var 0) .nil))) (.cons (.raise 0)
    .nil) .nil)
    .nil) }
def f8 : Fn := { ar := 1, ns := 1, body :=
    (.cons (.ife (.cmp .eq (.ix (.var 0) (.cst (.int (0)))) (.cst (.str "var"))) (.cons (.ret (.ix (.var 0) (.cst (.int (1)))))
    .nil) .nil)
    (.cons (.ret (.ifx (.cmp .eq (.ix (.var 0) (.cst (.int (0)))) (.cst (.str "const"))) (.cst (.str "")) (.bin .add (.call 8 (.cons (.ix (.var 0) (.cst (.int (1)))) .nil)) (.call 8 (.cons (.ix (.var 0) (.cst (.int (2)))) .nil)))))
    .nil)) }
def f9 : Fn := { ar := 1, ns := 1, body :=
    (.cons (.ife (.or (.not (.prim (.isi .tuple) (.cons (.var 0) .nil))) (.or (.cmp .ne (.prim .len (.cons (.var 0) .nil)) (.cst (.int (3)))) (.not (.prim (.isi .str) (.cons (.ix (.var 0) (.cst (.int (0)))) .nil))))) (.cons (.ret (.cst (.bl false)))
    .nil) .nil)
    (.cons (.ret (.and (.cmp .eq (.prim .len (.cons (.ix (.var 0) (.cst (.int (0)))) .nil)) (.cst (.int (1)))) (.and (.cmp .isin (.ix (.var 0) (.cst (.int (0)))) (.cst (.str "abcd"))) (.call 2 (.cons (.slA (.var 0) (.cst (.int (1)))) .nil)))))
    .nil)) }
def f10 : Fn := { ar := 1, ns := 3, body :=
    (.cons (.ret (.prim .all (.cons (.comp (.cmp .lt (.ix (.var 1) (.cst (.int (0)))) (.ix (.var 2) (.cst (.int (0))))) (.tp2 (.nm 1) (.nm 2)) (.zip (.var 0) (.slA (.var 0) (.cst (.int (1))))) [1, 2]) .nil)))
    .nil) }
def f11 : Fn := { ar := 1, ns := 2, body :=
    (.cons (.ife (.or (.not (.prim (.isi .tuple) (.cons (.var 0) .nil))) (.cmp .gt (.prim .len (.cons (.var 0) .nil)) (.prim .len (.cons (.cst (.str "abcd")) .nil)))) (.cons (.ret (.cst (.bl false)))
    .nil) .nil)
    (.cons (.ret (.and (.prim .all (.cons (.comp (.call 9 (.cons (.var 1) .nil)) (.nm 1) (.seq (.var 0)) [1]) .nil)) (.call 10 (.cons (.var 0) .nil))))
    .nil)) }
def f12 : Fn := { ar := 2, ns := 5, body :=
    (.cons (.set 2 false (.comp (.ix (.var 3) (.cst (.int (0)))) (.nm 3) (.seq (.var 1)) [3]) [])
    (.cons (.ret (.prim .all (.cons (.comp (.cmp .isin (.var 4) (.var 2)) (.nm 4) (.seq (.call 8 (.cons (.var 0) .nil))) [4]) .nil)))
    .nil)) }
def f13 : Fn := { ar := 2, ns := 2, body :=
    (.cons (.ife (.or (.not (.call 11 (.cons (.var 1) .nil))) (.not (.call 12 (.cons (.var 0) (.cons (.var 1) .nil))))) (.cons (.raise 2)
    .nil) .nil)
    .nil) }
def f14 : Fn := { ar := 1, ns := 1, body :=
    (.cons (.ife (.or (.not (.prim (.isi .tuple) (.cons (.var 0) .nil))) (.or (.cmp .ne (.prim .len (.cons (.var 0) .nil)) (.cst (.int (2)))) (.not (.prim (.isi .str) (.cons (.ix (.var 0) (.cst (.int (0)))) .nil))))) (.cons (.ret (.cst (.bl false)))
    .nil) .nil)
    (.cons (.ret (.and (.cmp .eq (.prim .len (.cons (.ix (.var 0) (.cst (.int (0)))) .nil)) (.cst (.int (1)))) (.and (.cmp .isin (.ix (.var 0) (.cst (.int (0)))) (.cst (.str "abcd"))) (.call 1 (.cons (.ix (.var 0) (.cst (.int (1)))) (.cons (.bin .sub (.cst (.int (0))) (.cst (.int (9999)))) (.cons (.cst (.int (9999))) .nil)))))))
    .nil)) }
def f15 : Fn := { ar := 2, ns := 4, body :=
    (.cons (.ife (.cmp .eq (.ix (.var 0) (.cst (.int (0)))) (.cst (.str "const"))) (.cons (.ret (.ix (.var 0) (.cst (.int (1)))))
    .nil) .nil)
    (.cons (.ife (.cmp .eq (.ix (.var 0) (.cst (.int (0)))) (.cst (.str "var"))) (.cons (.ret (.ix (.var 1) (.ix (.var 0) (.cst (.int (1))))))
    .nil) .nil)
    (.cons (.par2 4 2 3 false false (.call 15 (.cons (.ix (.var 0) (.cst (.int (1)))) (.cons (.var 1) .nil))) (.call 15 (.cons (.ix (.var 0) (.cst (.int (2)))) (.cons (.var 1) .nil))) [])
    (.cons (.ife (.cmp .eq (.ix (.var 0) (.cst (.int (0)))) (.cst (.str "+"))) (.cons (.ret (.bin .add (.var 2) (.var 3)))
    .nil) .nil)
    (.cons (.ret (.ifx (.cmp .eq (.ix (.var 0) (.cst (.int (0)))) (.cst (.str "-"))) (.bin .sub (.var 2) (.var 3)) (.bin .mul (.var 2) (.var 3))))
    .nil))))) }
def f16 : Fn := { ar := 2, ns := 3, body :=
    (.cons (.drop (.call 7 (.cons (.var 0) .nil)))
    (.cons (.ife (.or (.not (.prim (.isi .tuple) (.cons (.var 1) .nil))) (.or (.not (.prim .all (.cons (.comp (.call 14 (.cons (.var 2) .nil)) (.nm 2) (.seq (.var 1)) [2]) .nil))) (.not (.call 10 (.cons (.var 1) .nil))))) (.cons (.raise 1)
    .nil) .nil)
    (.cons (.ife (.not (.call 12 (.cons (.var 0) (.cons (.var 1) .nil)))) (.cons (.raise 1)
    .nil) .nil)
    (.cons (.ret (.call 15 (.cons (.var 0) (.cons (.prim .dict (.cons (.var 1) .nil)) .nil))))
    .nil)))) }
def f17 : Fn := { ar := 2, ns := 4, body :=
    (.cons (.ife (.cmp .eq (.ix (.var 0) (.cst (.int (0)))) (.cst (.str "const"))) (.cons (.ret (.tup (.cons (.ix (.var 0) (.cst (.int (1)))) (.cons (.ix (.var 0) (.cst (.int (1)))) .nil))))
    .nil) .nil)
    (.cons (.ife (.cmp .eq (.ix (.var 0) (.cst (.int (0)))) (.cst (.str "var"))) (.cons (.ret (.ix (.var 1) (.ix (.var 0) (.cst (.int (1))))))
    .nil) .nil)
    (.cons (.par2 4 2 3 false false (.call 17 (.cons (.ix (.var 0) (.cst (.int (1)))) (.cons (.var 1) .nil))) (.call 17 (.cons (.ix (.var 0) (.cst (.int (2)))) (.cons (.var 1) .nil))) [])
    (.cons (.ife (.cmp .eq (.ix (.var 0) (.cst (.int (0)))) (.cst (.str "+"))) (.cons (.ret (.tup (.cons (.bin .add (.ix (.var 2) (.cst (.int (0)))) (.ix (.var 3) (.cst (.int (0))))) (.cons (.bin .add (.ix (.var 2) (.cst (.int (1)))) (.ix (.var 3) (.cst (.int (1))))) .nil))))
    .nil) .nil)
    (.cons (.ret (.ifx (.cmp .eq (.ix (.var 0) (.cst (.int (0)))) (.cst (.str "-"))) (.tup (.cons (.bin .sub (.ix (.var 2) (.cst (.int (0)))) (.ix (.var 3) (.cst (.int (1))))) (.cons (.bin .sub (.ix (.var 2) (.cst (.int (1)))) (.ix (.var 3) (.cst (.int (0))))) .nil))) (.call 3 (.cons (.var 2) (.cons (.var 3) .nil)))))
    .nil))))) }
def f18 : Fn := { ar := 1, ns := 2, body :=
    (.cons (.ret (.prim .dict (.cons (.comp (.tup (.cons (.ix (.var 1) (.cst (.int (0)))) (.cons (.slA (.var 1) (.cst (.int (1)))) .nil))) (.nm 1) (.seq (.var 0)) [1]) .nil)))
    .nil) }
def f19 : Fn := { ar := 2, ns := 2, body :=
    (.cons (.drop (.call 7 (.cons (.var 0) .nil)))
    (.cons (.drop (.call 13 (.cons (.var 0) (.cons (.var 1) .nil))))
    (.cons (.ret (.call 17 (.cons (.var 0) (.cons (.call 18 (.cons (.var 1) .nil)) .nil))))
    .nil))) }
def f20 : Fn := { ar := 3, ns := 7, body :=
    (.cons (.set 3 false (.ifx (.cmp .ne (.var 0) (.lst .nil)) (.ix (.var 0) (.bin .mod (.var 1) (.prim .len (.cons (.var 0) .nil)))) (.cst (.int (0)))) [])
    (.cons (.par2 7 4 5 false false (.bin .fdiv (.var 3) (.bin .pow (.cst (.int (10))) (.cst (.int (18))))) (.bin .fdiv (.var 1) (.prim .max (.cons (.prim .len (.cons (.var 0) .nil)) (.cons (.cst (.int (1))) .nil)))) [])
    (.cons (.whl (.and (.cmp .gt (.var 4) (.cst (.int (0)))) (.cmp .gt (.var 5) (.cst (.int (0))))) (.cons (.par2 7 4 5 false false (.bin .fdiv (.var 4) (.cst (.int (840)))) (.bin .sub (.var 5) (.cst (.int (1)))) [])
    .nil))
    (.cons (.ife (.cmp .gt (.var 4) (.cst (.int (0)))) (.cons (.ret (.bin .mod (.bin .mod (.var 4) (.cst (.int (840)))) (.var 2)))
    .nil) .nil)
    (.cons (.set 6 false (.bin .mod (.bin .mul (.bin .add (.bin .mul (.var 3) (.cst (.int (31)))) (.bin .mul (.cst (.int (6151))) (.bin .add (.var 1) (.cst (.int (1)))))) (.cst (.int (40692)))) (.cst (.int (2147483399)))) [])
    (.cons (.ret (.bin .mod (.bin .mod (.bin .add (.bin .mul (.var 6) (.var 6)) (.bin .fdiv (.var 6) (.cst (.int (31))))) (.cst (.int (2147483629)))) (.var 2)))
    .nil)))))) }
def f21 : Fn := { ar := 2, ns := 2, body :=
    (.cons (.ife (.cmp .eq (.call 20 (.cons (.var 0) (.cons (.var 1) (.cons (.cst (.int (4))) .nil)))) (.cst (.int (0)))) (.cons (.ret (.tup (.cons (.cst (.str "const")) (.cons (.ix (.tup (.cons (.cst (.int (0))) (.cons (.cst (.int (1))) (.cons (.neg (.cst (.int (1)))) (.cons (.cst (.int (2))) (.cons (.cst (.int (3))) (.cons (.neg (.cst (.int (5)))) (.cons (.cst (.int (7))) .nil)))))))) (.call 20 (.cons (.var 0) (.cons (.bin .add (.var 1) (.cst (.int (1)))) (.cons (.cst (.int (7))) .nil))))) .nil))))
    .nil) .nil)
    (.cons (.ret (.tup (.cons (.cst (.str "var")) (.cons (.ix (.cst (.str "abcd")) (.call 20 (.cons (.var 0) (.cons (.bin .add (.var 1) (.cst (.int (2)))) (.cons (.cst (.int (4))) .nil))))) .nil))))
    .nil)) }
def f22 : Fn := { ar := 3, ns := 7, body :=
    (.cons (.set 3 false (.comp (.call 21 (.cons (.var 0) (.cons (.bin .add (.var 1) (.bin .mul (.cst (.int (4))) (.var 4))) .nil))) (.nm 4) (.rg1 (.bin .add (.cst (.int (1))) (.call 20 (.cons (.var 0) (.cons (.bin .add (.var 1) (.cst (.int (30)))) (.cons (.var 2) .nil)))))) [4]) [])
    (.cons (.whl (.cmp .gt (.prim .len (.cons (.var 3) .nil)) (.cst (.int (1)))) (.cons (.set 5 false (.call 20 (.cons (.var 0) (.cons (.bin .add (.bin .add (.var 1) (.cst (.int (31)))) (.prim .len (.cons (.var 3) .nil))) (.cons (.bin .sub (.prim .len (.cons (.var 3) .nil)) (.cst (.int (1)))) .nil)))) [])
    (.cons (.set 6 false (.ix (.cst (.str "+-*+-")) (.call 20 (.cons (.var 0) (.cons (.bin .add (.bin .add (.var 1) (.cst (.int (40)))) (.prim .len (.cons (.var 3) .nil))) (.cons (.cst (.int (5))) .nil))))) [])
    (.cons (.set 3 false (.bin .add (.bin .add (.slB (.var 3) (.var 5)) (.lst (.cons (.tup (.cons (.var 6) (.cons (.ix (.var 3) (.var 5)) (.cons (.ix (.var 3) (.bin .add (.var 5) (.cst (.int (1))))) .nil)))) .nil))) (.slA (.var 3) (.bin .add (.var 5) (.cst (.int (2)))))) [])
    .nil))))
    (.cons (.ret (.ix (.var 3) (.cst (.int (0)))))
    .nil))) }
def f23 : Fn := { ar := 3, ns := 6, body :=
    (.cons (.set 3 true (.lst .nil) [])
    (.cons (.forr (.nm 4) (.rg1 (.cst (.int (4)))) [] (.cons (.set 5 false (.bin .sub (.call 20 (.cons (.var 0) (.cons (.bin .add (.var 1) (.bin .mul (.cst (.int (2))) (.var 4))) (.cons (.cst (.int (13))) .nil)))) (.cst (.int (6)))) [])
    (.cons (.app 3 (.tup (.cons (.ix (.cst (.str "abcd")) (.var 4)) (.cons (.var 5) (.cons (.bin .add (.var 5) (.call 20 (.cons (.var 0) (.cons (.bin .add (.bin .add (.var 1) (.bin .mul (.cst (.int (2))) (.var 4))) (.cst (.int (1)))) (.cons (.var 2) .nil))))) .nil)))) [])
    .nil)))
    (.cons (.ret (.prim .tuple (.cons (.var 3) .nil)))
    .nil))) }
def f24 : Fn := { ar := 2, ns := 4, body :=
    (.cons (.ife (.cmp .eq (.ix (.var 0) (.cst (.int (0)))) (.cst (.str "const"))) (.cons (.ret (.ix (.var 0) (.cst (.int (1)))))
    .nil) .nil)
    (.cons (.ife (.cmp .eq (.ix (.var 0) (.cst (.int (0)))) (.cst (.str "var"))) (.cons (.ret (.ix (.var 1) (.ix (.var 0) (.cst (.int (1))))))
    .nil) .nil)
    (.cons (.par2 4 2 3 false false (.call 24 (.cons (.ix (.var 0) (.cst (.int (1)))) (.cons (.var 1) .nil))) (.call 24 (.cons (.ix (.var 0) (.cst (.int (2)))) (.cons (.var 1) .nil))) [])
    (.cons (.ret (.ifx (.cmp .eq (.ix (.var 0) (.cst (.int (0)))) (.cst (.str "+"))) (.bin .add (.var 2) (.var 3)) (.ifx (.cmp .eq (.ix (.var 0) (.cst (.int (0)))) (.cst (.str "-"))) (.bin .sub (.var 2) (.var 3)) (.bin .mul (.var 2) (.var 3)))))
    .nil)))) }
def b25_0 : Ss := .cons (.ife (.prim .any (.cons (.comp (.isc (.bl false) false (.call 6 (.cons (.var 8) .nil))) (.nm 8) (.seq (.var 6)) [8]) .nil)) (.cons (.ret (.cst (.bl false))) .nil) .nil)
  (.cons (.ret (.and (.prim .all (.cons (.comp (.isc (.bl true) true (.var 8)) (.nm 8) (.seq (.var 5)) [8]) .nil)) (.not (.prim .any (.cons (.comp (.isc (.bl false) false (.call 11 (.cons (.var 8) .nil))) (.nm 8) (.seq (.var 7)) [8]) .nil))))) .nil)
def b25_1 : Ss := .cons (.ext 7 (.lst (.cons (.tup (.cons (.tup (.cons (.cst (.str "a")) (.cons (.cst (.int (0))) (.cons (.cst (.int (1))) .nil)))) (.cons (.tup (.cons (.cst (.str "a")) (.cons (.cst (.int (0))) (.cons (.cst (.int (1))) .nil)))) .nil))) (.cons (.tup (.cons (.tup (.cons (.cst (.str "a")) (.cons (.cst (.int (0))) (.cons (.cst (.int (10000))) .nil)))) .nil)) (.cons (.tup (.cons (.tup (.cons (.cst (.str "a")) (.cons (.cst (.bl false)) (.cons (.cst (.int (1))) .nil)))) .nil)) (.cons (.tup (.cons (.tup (.cons (.cst (.str "ab")) (.cons (.cst (.int (0))) (.cons (.cst (.int (1))) .nil)))) .nil)) (.cons (.tup (.cons (.lst (.cons (.cst (.str "a")) (.cons (.cst (.int (0))) (.cons (.cst (.int (1))) .nil)))) .nil)) .nil)))))) [])
  b25_0
def b25_2 : Ss := .cons (.set 7 true (.lst (.cons (.prim .list (.cons (.var 1) .nil)) (.cons (.cst .non) (.cons (.tup (.cons (.tup (.cons (.cst (.str "a")) (.cons (.cst (.int (1))) (.cons (.cst (.int (0))) .nil)))) .nil)) (.cons (.tup (.cons (.tup (.cons (.cst (.str "a")) (.cons (.cst (.int (0))) .nil))) .nil)) (.cons (.tup (.cons (.tup (.cons (.cst (.str "e")) (.cons (.cst (.int (0))) (.cons (.cst (.int (1))) .nil)))) .nil)) (.cons (.tup (.cons (.tup (.cons (.cst (.str "b")) (.cons (.cst (.int (0))) (.cons (.cst (.int (1))) .nil)))) (.cons (.tup (.cons (.cst (.str "a")) (.cons (.cst (.int (0))) (.cons (.cst (.int (1))) .nil)))) .nil))) (.cons (.tup (.cons (.cst (.str "a")) (.cons (.cst (.int (0))) (.cons (.cst (.int (1))) .nil)))) .nil)))))))) [])
  b25_1
def b25_3 : Ss := .cons (.ext 6 (.lst (.cons (.tup (.cons (.cst (.str "-")) (.cons (.tup (.cons (.cst (.str "var")) (.cons (.cst (.str "e")) .nil))) (.cons (.var 2) .nil)))) (.cons (.tup (.cons (.cst (.int (1))) (.cons (.var 2) (.cons (.var 2) .nil)))) (.cons (.tup (.cons (.cst .non) (.cons (.cst (.int (5))) .nil))) (.cons (.tup (.cons (.cst (.str "const")) (.cons (.cst (.int (1))) (.cons (.cst (.int (2))) .nil)))) .nil))))) [])
  b25_2
def b25_4 : Ss := .cons (.app 6 (.tup (.cons (.cst (.str "+")) (.cons (.var 2) (.cons (.cst (.int (5))) .nil)))) [])
  b25_3
def b25_5 : Ss := .cons (.ext 6 (.lst (.cons (.tup (.cons (.cst (.str "var")) (.cons (.cst (.str "ab")) .nil))) (.cons (.tup (.cons (.cst (.str "const")) (.cons (.cst (.int (10000))) .nil))) (.cons (.tup (.cons (.cst (.str "const")) (.cons (.cst (.bl true)) .nil))) (.cons (.tup (.cons (.cst (.str "const")) (.cons (.cst (.str "1")) .nil))) (.cons (.tup (.cons (.cst (.str "const")) .nil)) (.cons (.cst .non) (.cons (.cst (.int (5))) (.cons (.cst (.str "a")) (.cons (.tup .nil) .nil)))))))))) [])
  b25_4
def b25_6 : Ss := .cons (.app 6 (.tup (.cons (.cst (.str "var")) (.cons (.cst (.str "")) .nil))) [])
  b25_5
def b25_7 : Ss := .cons (.set 6 true (.lst (.cons (.tup (.cons (.cst (.str "+")) (.cons (.var 3) (.cons (.var 2) .nil)))) (.cons (.tup (.cons (.cst (.str "+")) (.cons (.var 2) .nil))) (.cons (.tup (.cons (.cst (.str "+")) (.cons (.var 2) (.cons (.var 2) (.cons (.var 2) .nil))))) (.cons (.lst (.cons (.cst (.str "+")) (.cons (.var 2) (.cons (.var 2) .nil)))) (.cons (.tup (.cons (.cst (.str "/")) (.cons (.var 2) (.cons (.var 2) .nil)))) (.cons (.tup (.cons (.cst (.str "var")) (.cons (.cst (.str "e")) .nil))) .nil))))))) [])
  b25_6
def b25_8 : Ss := .cons (.app 5 (.call 11 (.cons (.tup (.cons (.tup (.cons (.cst (.str "a")) (.cons (.neg (.cst (.int (9999)))) (.cons (.cst (.int (9999))) .nil)))) (.cons (.tup (.cons (.cst (.str "d")) (.cons (.cst (.int (0))) (.cons (.cst (.int (0))) .nil)))) .nil))) .nil)) [])
  b25_7
def b25_9 : Ss := .cons (.set 5 true (.lst (.cons (.call 6 (.cons (.var 0) .nil)) (.cons (.call 6 (.cons (.var 3) .nil)) (.cons (.call 6 (.cons (.tup (.cons (.cst (.str "const")) (.cons (.neg (.cst (.int (9999)))) .nil))) .nil)) (.cons (.call 11 (.cons (.var 1) .nil)) (.cons (.call 11 (.cons (.tup .nil) .nil)) .nil)))))) [])
  b25_8
def b25_10 : Ss := .cons (.forr (.nm 4) (.rg1 (.cst (.int (5)))) [] (.cons (.set 3 false (.tup (.cons (.cst (.str "+")) (.cons (.var 3) (.cons (.var 2) .nil)))) []) .nil))
  b25_9
def b25_11 : Ss := .cons (.unp (.tp2 (.nm 2) (.nm 3)) (.tup (.cons (.tup (.cons (.cst (.str "var")) (.cons (.cst (.str "a")) .nil))) (.cons (.tup (.cons (.cst (.str "const")) (.cons (.cst (.int (9999))) .nil))) .nil))) [])
  b25_10
def f25 : Fn := { ar := 2, ns := 9, body := b25_11 }
def f26 : Fn := { ar := 2, ns := 5, body :=
    (.cons (.ife (.cmp .eq (.ix (.var 0) (.cst (.int (0)))) (.cst (.str "const"))) (.cons (.ret (.tup (.cons (.ix (.var 0) (.cst (.int (1)))) (.cons (.ix (.var 0) (.cst (.int (1)))) .nil))))
    .nil) .nil)
    (.cons (.ife (.cmp .eq (.ix (.var 0) (.cst (.int (0)))) (.cst (.str "var"))) (.cons (.ret (.ix (.var 1) (.ix (.var 0) (.cst (.int (1))))))
    .nil) .nil)
    (.cons (.par2 5 2 3 false false (.call 26 (.cons (.ix (.var 0) (.cst (.int (1)))) (.cons (.var 1) .nil))) (.call 26 (.cons (.ix (.var 0) (.cst (.int (2)))) (.cons (.var 1) .nil))) [])
    (.cons (.ife (.cmp .eq (.ix (.var 0) (.cst (.int (0)))) (.cst (.str "+"))) (.cons (.set 4 false (.lst (.cons (.bin .add (.ix (.var 2) (.cst (.int (0)))) (.ix (.var 3) (.cst (.int (0))))) (.cons (.bin .add (.ix (.var 2) (.cst (.int (1)))) (.ix (.var 3) (.cst (.int (1))))) .nil))) [])
    .nil) (.cons (.ife (.cmp .eq (.ix (.var 0) (.cst (.int (0)))) (.cst (.str "-"))) (.cons (.set 4 false (.lst (.cons (.bin .sub (.ix (.var 2) (.cst (.int (0)))) (.ix (.var 3) (.cst (.int (1))))) (.cons (.bin .sub (.ix (.var 2) (.cst (.int (1)))) (.ix (.var 3) (.cst (.int (0))))) .nil))) [])
    .nil) (.cons (.set 4 false (.lst (.cons (.bin .mul (.ix (.var 2) (.cst (.int (0)))) (.ix (.var 3) (.cst (.int (0))))) (.cons (.bin .mul (.ix (.var 2) (.cst (.int (0)))) (.ix (.var 3) (.cst (.int (1))))) (.cons (.bin .mul (.ix (.var 2) (.cst (.int (1)))) (.ix (.var 3) (.cst (.int (0))))) (.cons (.bin .mul (.ix (.var 2) (.cst (.int (1)))) (.ix (.var 3) (.cst (.int (1))))) .nil))))) [])
    .nil))
    .nil))
    (.cons (.ret (.tup (.cons (.prim .min (.cons (.var 4) .nil)) (.cons (.prim .max (.cons (.var 4) .nil)) .nil))))
    .nil))))) }
def b27_0 : Ss := .cons (.ife (.not (.chain .le .le (.var 9) (.call 16 (.cons (.var 2) (.cons (.var 7) .nil))) (.var 10))) (.cons (.ret (.cst (.bl false))) .nil) .nil) .nil
def b27_1 : Ss := .cons (.unp (.tp2 (.nm 9) (.nm 10)) (.call 19 (.cons (.var 2) (.cons (.var 3) .nil))) [])
  b27_0
def b27_2 : Ss := .cons (.ife (.cmp .ne (.call 16 (.cons (.var 2) (.cons (.var 7) .nil))) (.call 24 (.cons (.var 2) (.cons (.prim .dict (.cons (.var 7) .nil)) .nil)))) (.cons (.ret (.cst (.bl false))) .nil) .nil)
  b27_1
def b27_3 : Ss := .cons (.set 7 false (.prim .tuple (.cons (.comp (.tup (.cons (.var 8) (.cons (.bin .add (.var 9) (.call 20 (.cons (.var 0) (.cons (.bin .add (.var 6) (.bin .mod (.var 9) (.cst (.int (4))))) (.cons (.bin .add (.bin .sub (.var 10) (.var 9)) (.cst (.int (1)))) .nil))))) .nil))) (.tp3 (.nm 8) (.nm 9) (.nm 10)) (.seq (.var 3)) [8, 9, 10]) .nil)) [])
  b27_2
def b27_4 : Ss := .cons (.set 6 false (.bin .add (.bin .add (.cst (.int (400))) (.bin .mul (.cst (.int (12))) (.var 1))) (.bin .mul (.cst (.int (4))) (.var 5))) [])
  b27_3
def b27_5 : Ss := .cons (.forr (.nm 5) (.rg1 (.cst (.int (3)))) [] b27_4) .nil
def b27_6 : Ss := .cons (.ife (.cmp .ne (.call 19 (.cons (.var 2) (.cons (.var 3) .nil))) (.call 26 (.cons (.var 2) (.cons (.prim .dict (.cons (.comp (.tup (.cons (.ix (.var 4) (.cst (.int (0)))) (.cons (.slA (.var 4) (.cst (.int (1)))) .nil))) (.nm 4) (.seq (.var 3)) [4]) .nil)) .nil)))) (.cons (.ret (.cst (.bl false))) .nil) .nil)
  b27_5
def b27_7 : Ss := .cons (.ife (.not (.call 25 (.cons (.var 2) (.cons (.var 3) .nil)))) (.cons (.ret (.cst (.bl false))) .nil) .nil)
  b27_6
def b27_8 : Ss := .cons (.par2 11 2 3 false false (.call 22 (.cons (.var 0) (.cons (.bin .mul (.cst (.int (80))) (.var 1)) (.cons (.cst (.int (6))) .nil)))) (.call 23 (.cons (.var 0) (.cons (.bin .add (.bin .mul (.cst (.int (80))) (.var 1)) (.cst (.int (60)))) (.cons (.cst (.int (9))) .nil)))) [])
  b27_7
def b27_9 : Ss := .cons (.forr (.nm 1) (.rg1 (.cst (.int (4)))) [] b27_8)
  (.cons (.ret (.and (.cmp .eq (.call 19 (.cons (.tup (.cons (.cst (.str "const")) (.cons (.cst (.int (5))) .nil))) (.cons (.tup .nil) .nil))) (.tup (.cons (.cst (.int (5))) (.cons (.cst (.int (5))) .nil)))) (.cmp .eq (.call 16 (.cons (.tup (.cons (.cst (.str "const")) (.cons (.cst (.int (5))) .nil))) (.cons (.tup .nil) .nil))) (.cst (.int (5)))))) .nil)
def f27 : Fn := { ar := 1, ns := 11, body := b27_9 }


def fs : List Fn := [f0, f1, f2, f3, f4, f5, f6, f7, f8, f9, f10, f11, f12, f13, f14, f15, f16, f17, f18, f19, f20, f21, f22, f23, f24, f25, f26, f27]
theorem cs0 (n : Nat) (ds : List D) : call fs (n + 1) 0 ds = runF (call fs n) f0 ds := rfl
theorem cs1 (n : Nat) (ds : List D) : call fs (n + 1) 1 ds = runF (call fs n) f1 ds := rfl
theorem cs2 (n : Nat) (ds : List D) : call fs (n + 1) 2 ds = runF (call fs n) f2 ds := rfl
theorem cs3 (n : Nat) (ds : List D) : call fs (n + 1) 3 ds = runF (call fs n) f3 ds := rfl
theorem cs4 (n : Nat) (ds : List D) : call fs (n + 1) 4 ds = runF (call fs n) f4 ds := rfl
theorem cs5 (n : Nat) (ds : List D) : call fs (n + 1) 5 ds = runF (call fs n) f5 ds := rfl
theorem cs6 (n : Nat) (ds : List D) : call fs (n + 1) 6 ds = runF (call fs n) f6 ds := rfl
theorem cs7 (n : Nat) (ds : List D) : call fs (n + 1) 7 ds = runF (call fs n) f7 ds := rfl
theorem cs8 (n : Nat) (ds : List D) : call fs (n + 1) 8 ds = runF (call fs n) f8 ds := rfl
theorem cs9 (n : Nat) (ds : List D) : call fs (n + 1) 9 ds = runF (call fs n) f9 ds := rfl
theorem cs10 (n : Nat) (ds : List D) : call fs (n + 1) 10 ds = runF (call fs n) f10 ds := rfl
theorem cs11 (n : Nat) (ds : List D) : call fs (n + 1) 11 ds = runF (call fs n) f11 ds := rfl
theorem cs12 (n : Nat) (ds : List D) : call fs (n + 1) 12 ds = runF (call fs n) f12 ds := rfl
theorem cs13 (n : Nat) (ds : List D) : call fs (n + 1) 13 ds = runF (call fs n) f13 ds := rfl
theorem cs14 (n : Nat) (ds : List D) : call fs (n + 1) 14 ds = runF (call fs n) f14 ds := rfl
theorem cs15 (n : Nat) (ds : List D) : call fs (n + 1) 15 ds = runF (call fs n) f15 ds := rfl
theorem cs16 (n : Nat) (ds : List D) : call fs (n + 1) 16 ds = runF (call fs n) f16 ds := rfl
theorem cs17 (n : Nat) (ds : List D) : call fs (n + 1) 17 ds = runF (call fs n) f17 ds := rfl
theorem cs18 (n : Nat) (ds : List D) : call fs (n + 1) 18 ds = runF (call fs n) f18 ds := rfl
theorem cs19 (n : Nat) (ds : List D) : call fs (n + 1) 19 ds = runF (call fs n) f19 ds := rfl
theorem cs20 (n : Nat) (ds : List D) : call fs (n + 1) 20 ds = runF (call fs n) f20 ds := rfl
theorem cs21 (n : Nat) (ds : List D) : call fs (n + 1) 21 ds = runF (call fs n) f21 ds := rfl
theorem cs22 (n : Nat) (ds : List D) : call fs (n + 1) 22 ds = runF (call fs n) f22 ds := rfl
theorem cs23 (n : Nat) (ds : List D) : call fs (n + 1) 23 ds = runF (call fs n) f23 ds := rfl
theorem cs24 (n : Nat) (ds : List D) : call fs (n + 1) 24 ds = runF (call fs n) f24 ds := rfl
theorem cs25 (n : Nat) (ds : List D) : call fs (n + 1) 25 ds = runF (call fs n) f25 ds := rfl
theorem cs26 (n : Nat) (ds : List D) : call fs (n + 1) 26 ds = runF (call fs n) f26 ds := rfl
theorem cs27 (n : Nat) (ds : List D) : call fs (n + 1) 27 ds = runF (call fs n) f27 ds := rfl
/-! comprehensions over mapped lists -/
theorem cmpK_mp {α : Type} {C : Orc} {elt : E} {tg : Tg} {own : List Nat} {ρ : Ev} {f g : α → D} : ∀ {l : List α}, (∀ a ∈ l, cmpT C elt tg own ρ (f a) = .ok (some (g a))) → cmpK C elt tg own ρ (l.map f) = .ok (.lst (l.map g), true) := fun {l} h => by
  unfold cmpK
  have e : compL (cmpT C elt tg own ρ) (l.map f) = .ok (l.map g) := by
    induction l with
    | nil => rfl
    | cons a r ih =>
      rw [List.map_cons, List.map_cons]
      show (cmpT C elt tg own ρ (f a)).bind _ = _
      rw [h a List.mem_cons_self, R.bind_ok, ih fun b hb => h b (List.mem_cons_of_mem _ hb)]
      rfl
  rw [e]
  rfl
theorem cmpK_ex {C : Orc} {elt : E} {tg : Tg} {own : List Nat} {ρ : Ev} {Q : Nat → D → D → Prop} : ∀ {xs : List D}, (∀ i x, xs[i]? = some x → ∃ y, cmpT C elt tg own ρ x = .ok (some y) ∧ Q i x y) →
    ∃ ys, cmpK C elt tg own ρ xs = .ok (.lst ys, true) ∧ ys.length = xs.length ∧ ∀ i x, xs[i]? = some x → ∃ y, ys[i]? = some y ∧ Q i x y := fun {xs} h => by
  have e : ∃ ys, compL (cmpT C elt tg own ρ) xs = .ok ys ∧ ys.length = xs.length ∧ ∀ i x, xs[i]? = some x → ∃ y, ys[i]? = some y ∧ Q i x y := by
    induction xs generalizing Q with
    | nil => exact ⟨[], rfl, rfl, fun i x hx => by simp at hx⟩
    | cons a r ih =>
      obtain ⟨y, e1, q1⟩ := h 0 a rfl
      obtain ⟨ys, e2, l2, q2⟩ := ih (Q := fun i => Q (i + 1)) fun i x hx => h (i + 1) x (by simpa using hx)
      refine ⟨y :: ys, ?_, by simp [l2], fun i x hx => ?_⟩
      · show (cmpT C elt tg own ρ a).bind _ = _
        rw [e1, R.bind_ok, e2]
        rfl
      · cases i with
        | zero =>
          simp only [List.getElem?_cons_zero, Option.some.injEq] at hx
          subst hx
          exact ⟨y, rfl, q1⟩
        | succ i =>
          simp only [List.getElem?_cons_succ] at hx ⊢
          exact q2 i x hx
  obtain ⟨ys, e1, e2⟩ := e
  refine ⟨ys, ?_, e2⟩
  unfold cmpK
  rw [e1]
  rfl
theorem bls_map {α : Type} (f : α → Bool) : ∀ l : List α, bls? (l.map fun x => D.bl (f x)) = some (l.map f)
  | [] => rfl
  | x :: r => by
    show (bls? (r.map fun x => D.bl (f x))).map (f x :: ·) = _
    rw [bls_map f r]
    rfl
theorem p_allM {α : Type} (f : α → Bool) (l : List α) : prD .all [.lst (l.map fun x => D.bl (f x))] = .ok (.bl (l.all f), false) := by
  rw [p_all, bls_map]
  show R.ok (D.bl ((l.map f).all id), false) = _
  rw [List.all_map]
  rfl

/-! expressions -/
inductive Op where | add | sub | mul
inductive X where | c (z : Int) | v (i : Nat) | b (o : Op) (l r : X)
def sg : Op → Str | .add => "+" | .sub => "-" | .mul => "*"
def nmS (i : Nat) : Str := ⟨#[97 + i]⟩
def xD : X → D
  | .c z => .tup [.str "const", .int z]
  | .v i => .tup [.str "var", .str (nmS i)]
  | .b o l r => .tup [.str (sg o), xD l, xD r]
def lv : X → Nat | .b _ l r => lv l + lv r | _ => 1
def okX : X → Prop | .c z => -9999 ≤ z ∧ z ≤ 9999 | .v i => i < 4 | .b _ l r => okX l ∧ okX r
def nmX : X → List Nat | .c _ => [] | .v i => [i] | .b _ l r => nmX l ++ nmX r
theorem lv_pos : ∀ x : X, 1 ≤ lv x
  | .c _ => Nat.le_refl _
  | .v _ => Nat.le_refl _
  | .b _ l r => by have := lv_pos l; show 1 ≤ lv l + lv r; omega
theorem dS (n : Nat) (x : Str) : dat n (.str x) = PyData.strOk x := by cases n <;> rfl
theorem eqS (x y : Str) : eqD (.str x) (.str y) = (x == y) := by simp only [eqD]
theorem p_lenZ (z : Str) : SS.prD .len [.str z] = okIf (decide (z.length ≤ szl)) (.int z.length, false) := id rfl
theorem b_addSS (x y : Str) : binD .add (.str x) (.str y) = okIf (decide (x.length + y.length ≤ szl)) (.str (x ++ y), false) := id rfl
theorem eqQ (x y : Str) : cmpD .eq (.str x) (.str y) = okIf (PyData.strOk x && PyData.strOk y) (x == y) := by rw [c_eq, dS, dS, eqS]
theorem neQ (x y : Str) : cmpD .ne (.str x) (.str y) = okIf (PyData.strOk x && PyData.strOk y) (!(x == y)) := by
  show okIf _ _ = _
  rw [dS, dS, eqS]
theorem okc : PyData.strOk "const" = true := by decide +kernel
theorem okv : PyData.strOk "var" = true := by decide +kernel
theorem okp : PyData.strOk "+" = true := by decide +kernel
theorem okm : PyData.strOk "-" = true := by decide +kernel
theorem okt : PyData.strOk "*" = true := by decide +kernel
theorem oks (o : Op) : PyData.strOk (sg o) = true := by cases o <;> decide +kernel
theorem kcc : (("const" : Str) == ("const" : Str)) = true := by decide +kernel
theorem kvv : (("var" : Str) == ("var" : Str)) = true := by decide +kernel
theorem kcv : (("const" : Str) == ("var" : Str)) = false := by decide +kernel
theorem kvc : (("var" : Str) == ("const" : Str)) = false := by decide +kernel
theorem ksc (o : Op) : (sg o == ("const" : Str)) = false := by cases o <;> decide +kernel
theorem ksv (o : Op) : (sg o == ("var" : Str)) = false := by cases o <;> decide +kernel
theorem ksp (o : Op) : (sg o == ("+" : Str)) = (match o with | .add => true | _ => false) := by cases o <;> decide +kernel
theorem ksm (o : Op) : (sg o == ("-" : Str)) = (match o with | .sub => true | _ => false) := by cases o <;> decide +kernel
theorem kst (o : Op) : (sg o == ("*" : Str)) = (match o with | .mul => true | _ => false) := by cases o <;> decide +kernel
theorem nmL (i : Nat) : (nmS i).length = 1 := rfl
theorem nmOk {i : Nat} (h : i < 4) : PyData.strOk (nmS i) = true := by
  match i, h with
  | 0, _ => decide +kernel
  | 1, _ => decide +kernel
  | 2, _ => decide +kernel
  | 3, _ => decide +kernel
theorem inN {i : Nat} (h : i < 4) : inS (nmS i) "abcd" true = .ok true := by
  match i, h with
  | 0, _ => rfl
  | 1, _ => rfl
  | 2, _ => rfl
  | 3, _ => rfl
theorem sgIn (o : Op) : cmpD .notin (.str (sg o)) (.tup [.str "+", .str "-", .str "*"]) = .ok false := by
  rw [c_niT]
  simp only [dats, dS, oks, okp, okm, okt, Bool.and_self, okIf_true, inD, eqS]
  exact congrArg R.ok (by cases o <;> decide +kernel)
theorem nmLI (i : Nat) : ((nmS i).length : Int) = 1 := rfl
theorem nmLS (i : Nat) : (nmS i).length ≤ szl := by rw [nmL]; decide
theorem q0i (n : Nat) (i : Int) : call fs (n + 1) 0 [.int i] = .ok (.bl true, false) := by
  rw [cs0, runF_eq rfl]
  simp only [ev_var, ev_cst, ev_tup, ev_lst, ev_bin, ev_neg, ev_cmp, ev_chain, ev_isc, ev_and, ev_or, ev_not, ev_ifx, ev_ix, ev_slA, ev_slB, ev_slC, ev_call, ev_callv, ev_prim, ev_rng, ev_srs, ev_srl, ev_dnew, ev_rev, ev_comp, ev_compf, ev_comp2, evs_nil, evs_cons, sr_seq, sr_rg1, sr_rg2, sr_zip, sr_enum, ex_set, ex_unp, ex_par2, ex_par3, ex_drop, ex_app, ex_ext, ex_rem, ex_put, ex_ret, ex_retV, ex_retN, ex_pass, ex_ife, ex_forr, ex_whl, ex_raise, ex_try, exs_nil, exs_cons, andK_t, andK_f, orK_t, orK_f, ixK_t, ixK_f, chK_t, chK_f, cvK_fn, ifK_t, ifK_f, forK_n, varK_s, rvK_s, unpK_s, ownK_t, lenK_t, seqK_l, seqK_t, seqK_s, zipK_l, zipK_t, enuK_l, enuK_t, negK_i, iscK_t, iscK_f, tryO_nx, tryO_ret, bd_ok, bd_err, bd_bad, on_ok, on_err, on_bad, th_nx, th_ret, th_err, th_bad, boolR_ok, boolR_err, intR_ok, intR_err, noErr_ok, okIf_true, b_addI, b_subI, b_mulI, b_fdI, b_mdI, b_pwI, b_shI, c_lt, c_le, c_gt, c_ge, c_scr, c_eqI, c_neI, c_neB, c_eqB, x_lst, x_tup, x_dcs, c_inS, c_niS, c_ltS, p_dictL, p_dictT, p_lenL, p_lenT, p_lenS, p_minI, p_maxI, p_isi, p_tupL, p_tupT, p_lstL, p_lstT, p_intB, p_intI, tyD, isD, view_eq, viewF_nil, viewF_cons, vw_none, vw_val, vw_own0, isOwn, appL, viewA_nil, viewA_cons, vA_some, vA_none, after_nil, bindS, bindTg, Option.bind_some, List.map_cons, List.map_nil, List.cons_append, List.nil_append, List.set_cons_zero, List.set_cons_succ, List.getElem?_cons_zero, List.getElem?_cons_succ, List.length_cons, List.length_nil, List.isEmpty_nil, List.isEmpty_cons, ↓reduceIte, outR_nx, outR_ret, outR_err, Bool.not_true, Bool.not_false, Bool.false_and, Bool.true_and, Bool.and_true, Bool.and_false, Bool.or_true, Bool.true_or, Bool.false_or, Bool.or_false, Bool.false_eq_true, decide_true, decide_false, at0, at1, at2, at3, nabs, nabs_neg, ncast, beq_self_eq_true, List.replicate_succ, List.replicate_zero, Nat.reduceLT, Nat.reduceLeDiff, Nat.reduceLT, Nat.reduceAdd, Int.reduceLT, Int.reduceLE, Int.reduceNeg, Int.reduceEq, Int.reduceBEq, Int.reduceSub, Int.reduceAdd, Int.reduceMul, Int.reduceToNat, Nat.reduceSub, Nat.reduceMul, Nat.reduceEqDiff, lg, reduceCtorEq, Option.map_some, Option.map_none, f0]
theorem qInt (n : Nat) (i l h : Int) (h1 : l ≤ i) (h2 : i ≤ h) : call fs (n + 2) 1 [.int i, .int l, .int h] = .ok (.bl true, false) := by
  rw [cs1, runF_eq rfl]
  simp only [ev_var, ev_cst, ev_tup, ev_lst, ev_bin, ev_neg, ev_cmp, ev_chain, ev_isc, ev_and, ev_or, ev_not, ev_ifx, ev_ix, ev_slA, ev_slB, ev_slC, ev_call, ev_callv, ev_prim, ev_rng, ev_srs, ev_srl, ev_dnew, ev_rev, ev_comp, ev_compf, ev_comp2, evs_nil, evs_cons, sr_seq, sr_rg1, sr_rg2, sr_zip, sr_enum, ex_set, ex_unp, ex_par2, ex_par3, ex_drop, ex_app, ex_ext, ex_rem, ex_put, ex_ret, ex_retV, ex_retN, ex_pass, ex_ife, ex_forr, ex_whl, ex_raise, ex_try, exs_nil, exs_cons, andK_t, andK_f, orK_t, orK_f, ixK_t, ixK_f, chK_t, chK_f, cvK_fn, ifK_t, ifK_f, forK_n, varK_s, rvK_s, unpK_s, ownK_t, lenK_t, seqK_l, seqK_t, seqK_s, zipK_l, zipK_t, enuK_l, enuK_t, negK_i, iscK_t, iscK_f, tryO_nx, tryO_ret, bd_ok, bd_err, bd_bad, on_ok, on_err, on_bad, th_nx, th_ret, th_err, th_bad, boolR_ok, boolR_err, intR_ok, intR_err, noErr_ok, okIf_true, b_addI, b_subI, b_mulI, b_fdI, b_mdI, b_pwI, b_shI, c_lt, c_le, c_gt, c_ge, c_scr, c_eqI, c_neI, c_neB, c_eqB, x_lst, x_tup, x_dcs, c_inS, c_niS, c_ltS, p_dictL, p_dictT, p_lenL, p_lenT, p_lenS, p_minI, p_maxI, p_isi, p_tupL, p_tupT, p_lstL, p_lstT, p_intB, p_intI, tyD, isD, view_eq, viewF_nil, viewF_cons, vw_none, vw_val, vw_own0, isOwn, appL, viewA_nil, viewA_cons, vA_some, vA_none, after_nil, bindS, bindTg, Option.bind_some, List.map_cons, List.map_nil, List.cons_append, List.nil_append, List.set_cons_zero, List.set_cons_succ, List.getElem?_cons_zero, List.getElem?_cons_succ, List.length_cons, List.length_nil, List.isEmpty_nil, List.isEmpty_cons, ↓reduceIte, outR_nx, outR_ret, outR_err, Bool.not_true, Bool.not_false, Bool.false_and, Bool.true_and, Bool.and_true, Bool.and_false, Bool.or_true, Bool.true_or, Bool.false_or, Bool.or_false, Bool.false_eq_true, decide_true, decide_false, at0, at1, at2, at3, nabs, nabs_neg, ncast, beq_self_eq_true, List.replicate_succ, List.replicate_zero, Nat.reduceLT, Nat.reduceLeDiff, Nat.reduceLT, Nat.reduceAdd, Int.reduceLT, Int.reduceLE, Int.reduceNeg, Int.reduceEq, Int.reduceBEq, Int.reduceSub, Int.reduceAdd, Int.reduceMul, Int.reduceToNat, Nat.reduceSub, Nat.reduceMul, Nat.reduceEqDiff, lg, reduceCtorEq, Option.map_some, Option.map_none, f1, q0i, h1, h2]
theorem leafC (n : Nat) (z : Int) (h : okX (.c z)) : call fs (n + 3) 4 [xD (.c z)] = .ok (.bl true, false) := by
  have q := qInt n z (-9999) 9999 h.1 h.2
  rw [cs4, runF_eq rfl]
  simp only [ev_var, ev_cst, ev_tup, ev_lst, ev_bin, ev_neg, ev_cmp, ev_chain, ev_isc, ev_and, ev_or, ev_not, ev_ifx, ev_ix, ev_slA, ev_slB, ev_slC, ev_call, ev_callv, ev_prim, ev_rng, ev_srs, ev_srl, ev_dnew, ev_rev, ev_comp, ev_compf, ev_comp2, evs_nil, evs_cons, sr_seq, sr_rg1, sr_rg2, sr_zip, sr_enum, ex_set, ex_unp, ex_par2, ex_par3, ex_drop, ex_app, ex_ext, ex_rem, ex_put, ex_ret, ex_retV, ex_retN, ex_pass, ex_ife, ex_forr, ex_whl, ex_raise, ex_try, exs_nil, exs_cons, andK_t, andK_f, orK_t, orK_f, ixK_t, ixK_f, chK_t, chK_f, cvK_fn, ifK_t, ifK_f, forK_n, varK_s, rvK_s, unpK_s, ownK_t, lenK_t, seqK_l, seqK_t, seqK_s, zipK_l, zipK_t, enuK_l, enuK_t, negK_i, iscK_t, iscK_f, tryO_nx, tryO_ret, bd_ok, bd_err, bd_bad, on_ok, on_err, on_bad, th_nx, th_ret, th_err, th_bad, boolR_ok, boolR_err, intR_ok, intR_err, noErr_ok, okIf_true, b_addI, b_subI, b_mulI, b_fdI, b_mdI, b_pwI, b_shI, c_lt, c_le, c_gt, c_ge, c_scr, c_eqI, c_neI, c_neB, c_eqB, x_lst, x_tup, x_dcs, c_inS, c_niS, c_ltS, p_dictL, p_dictT, p_lenL, p_lenT, p_lenS, p_minI, p_maxI, p_isi, p_tupL, p_tupT, p_lstL, p_lstT, p_intB, p_intI, tyD, isD, view_eq, viewF_nil, viewF_cons, vw_none, vw_val, vw_own0, isOwn, appL, viewA_nil, viewA_cons, vA_some, vA_none, after_nil, bindS, bindTg, Option.bind_some, List.map_cons, List.map_nil, List.cons_append, List.nil_append, List.set_cons_zero, List.set_cons_succ, List.getElem?_cons_zero, List.getElem?_cons_succ, List.length_cons, List.length_nil, List.isEmpty_nil, List.isEmpty_cons, ↓reduceIte, outR_nx, outR_ret, outR_err, Bool.not_true, Bool.not_false, Bool.false_and, Bool.true_and, Bool.and_true, Bool.and_false, Bool.or_true, Bool.true_or, Bool.false_or, Bool.or_false, Bool.false_eq_true, decide_true, decide_false, at0, at1, at2, at3, nabs, nabs_neg, ncast, beq_self_eq_true, List.replicate_succ, List.replicate_zero, Nat.reduceLT, Nat.reduceLeDiff, Nat.reduceLT, Nat.reduceAdd, Int.reduceLT, Int.reduceLE, Int.reduceNeg, Int.reduceEq, Int.reduceBEq, Int.reduceSub, Int.reduceAdd, Int.reduceMul, Int.reduceToNat, Nat.reduceSub, Nat.reduceMul, Nat.reduceEqDiff, lg, reduceCtorEq, Option.map_some, Option.map_none, f4, xD, eqQ, okc, okv, kcc, kcv, q]
theorem leafV (n : Nat) (i : Nat) (h : i < 4) : call fs (n + 3) 4 [xD (.v i)] = .ok (.bl true, false) := by
  rw [cs4, runF_eq rfl]
  simp only [ev_var, ev_cst, ev_tup, ev_lst, ev_bin, ev_neg, ev_cmp, ev_chain, ev_isc, ev_and, ev_or, ev_not, ev_ifx, ev_ix, ev_slA, ev_slB, ev_slC, ev_call, ev_callv, ev_prim, ev_rng, ev_srs, ev_srl, ev_dnew, ev_rev, ev_comp, ev_compf, ev_comp2, evs_nil, evs_cons, sr_seq, sr_rg1, sr_rg2, sr_zip, sr_enum, ex_set, ex_unp, ex_par2, ex_par3, ex_drop, ex_app, ex_ext, ex_rem, ex_put, ex_ret, ex_retV, ex_retN, ex_pass, ex_ife, ex_forr, ex_whl, ex_raise, ex_try, exs_nil, exs_cons, andK_t, andK_f, orK_t, orK_f, ixK_t, ixK_f, chK_t, chK_f, cvK_fn, ifK_t, ifK_f, forK_n, varK_s, rvK_s, unpK_s, ownK_t, lenK_t, seqK_l, seqK_t, seqK_s, zipK_l, zipK_t, enuK_l, enuK_t, negK_i, iscK_t, iscK_f, tryO_nx, tryO_ret, bd_ok, bd_err, bd_bad, on_ok, on_err, on_bad, th_nx, th_ret, th_err, th_bad, boolR_ok, boolR_err, intR_ok, intR_err, noErr_ok, okIf_true, b_addI, b_subI, b_mulI, b_fdI, b_mdI, b_pwI, b_shI, c_lt, c_le, c_gt, c_ge, c_scr, c_eqI, c_neI, c_neB, c_eqB, x_lst, x_tup, x_dcs, c_inS, c_niS, c_ltS, p_dictL, p_dictT, p_lenL, p_lenT, p_lenS, p_minI, p_maxI, p_isi, p_tupL, p_tupT, p_lstL, p_lstT, p_intB, p_intI, tyD, isD, view_eq, viewF_nil, viewF_cons, vw_none, vw_val, vw_own0, isOwn, appL, viewA_nil, viewA_cons, vA_some, vA_none, after_nil, bindS, bindTg, Option.bind_some, List.map_cons, List.map_nil, List.cons_append, List.nil_append, List.set_cons_zero, List.set_cons_succ, List.getElem?_cons_zero, List.getElem?_cons_succ, List.length_cons, List.length_nil, List.isEmpty_nil, List.isEmpty_cons, ↓reduceIte, outR_nx, outR_ret, outR_err, Bool.not_true, Bool.not_false, Bool.false_and, Bool.true_and, Bool.and_true, Bool.and_false, Bool.or_true, Bool.true_or, Bool.false_or, Bool.or_false, Bool.false_eq_true, decide_true, decide_false, at0, at1, at2, at3, nabs, nabs_neg, ncast, beq_self_eq_true, List.replicate_succ, List.replicate_zero, Nat.reduceLT, Nat.reduceLeDiff, Nat.reduceLT, Nat.reduceAdd, Int.reduceLT, Int.reduceLE, Int.reduceNeg, Int.reduceEq, Int.reduceBEq, Int.reduceSub, Int.reduceAdd, Int.reduceMul, Int.reduceToNat, Nat.reduceSub, Nat.reduceMul, Nat.reduceEqDiff, lg, reduceCtorEq, Option.map_some, Option.map_none, f4, xD, eqQ, okc, okv, kvv, p_lenZ, nmLI, nmLS, inN h]
theorem leafB (n : Nat) (o : Op) (l r : X) : call fs (n + 1) 4 [xD (.b o l r)] = .ok (.bl false, false) := by
  rw [cs4, runF_eq rfl]
  simp only [ev_var, ev_cst, ev_tup, ev_lst, ev_bin, ev_neg, ev_cmp, ev_chain, ev_isc, ev_and, ev_or, ev_not, ev_ifx, ev_ix, ev_slA, ev_slB, ev_slC, ev_call, ev_callv, ev_prim, ev_rng, ev_srs, ev_srl, ev_dnew, ev_rev, ev_comp, ev_compf, ev_comp2, evs_nil, evs_cons, sr_seq, sr_rg1, sr_rg2, sr_zip, sr_enum, ex_set, ex_unp, ex_par2, ex_par3, ex_drop, ex_app, ex_ext, ex_rem, ex_put, ex_ret, ex_retV, ex_retN, ex_pass, ex_ife, ex_forr, ex_whl, ex_raise, ex_try, exs_nil, exs_cons, andK_t, andK_f, orK_t, orK_f, ixK_t, ixK_f, chK_t, chK_f, cvK_fn, ifK_t, ifK_f, forK_n, varK_s, rvK_s, unpK_s, ownK_t, lenK_t, seqK_l, seqK_t, seqK_s, zipK_l, zipK_t, enuK_l, enuK_t, negK_i, iscK_t, iscK_f, tryO_nx, tryO_ret, bd_ok, bd_err, bd_bad, on_ok, on_err, on_bad, th_nx, th_ret, th_err, th_bad, boolR_ok, boolR_err, intR_ok, intR_err, noErr_ok, okIf_true, b_addI, b_subI, b_mulI, b_fdI, b_mdI, b_pwI, b_shI, c_lt, c_le, c_gt, c_ge, c_scr, c_eqI, c_neI, c_neB, c_eqB, x_lst, x_tup, x_dcs, c_inS, c_niS, c_ltS, p_dictL, p_dictT, p_lenL, p_lenT, p_lenS, p_minI, p_maxI, p_isi, p_tupL, p_tupT, p_lstL, p_lstT, p_intB, p_intI, tyD, isD, view_eq, viewF_nil, viewF_cons, vw_none, vw_val, vw_own0, isOwn, appL, viewA_nil, viewA_cons, vA_some, vA_none, after_nil, bindS, bindTg, Option.bind_some, List.map_cons, List.map_nil, List.cons_append, List.nil_append, List.set_cons_zero, List.set_cons_succ, List.getElem?_cons_zero, List.getElem?_cons_succ, List.length_cons, List.length_nil, List.isEmpty_nil, List.isEmpty_cons, ↓reduceIte, outR_nx, outR_ret, outR_err, Bool.not_true, Bool.not_false, Bool.false_and, Bool.true_and, Bool.and_true, Bool.and_false, Bool.or_true, Bool.true_or, Bool.false_or, Bool.or_false, Bool.false_eq_true, decide_true, decide_false, at0, at1, at2, at3, nabs, nabs_neg, ncast, beq_self_eq_true, List.replicate_succ, List.replicate_zero, Nat.reduceLT, Nat.reduceLeDiff, Nat.reduceLT, Nat.reduceAdd, Int.reduceLT, Int.reduceLE, Int.reduceNeg, Int.reduceEq, Int.reduceBEq, Int.reduceSub, Int.reduceAdd, Int.reduceMul, Int.reduceToNat, Nat.reduceSub, Nat.reduceMul, Nat.reduceEqDiff, lg, reduceCtorEq, Option.map_some, Option.map_none, f4, xD]
theorem cntL : ∀ (x : X) (n : Nat) (m : Int), okX x → lv x ≤ n → 1 ≤ m → (lv x : Int) ≤ m → call fs (n + 3) 5 [xD x, .int m] = .ok (.int (lv x), false)
  | .c z, 0, m, ok, hn, h1, h2 => by simp [lv] at hn
  | .v i, 0, m, ok, hn, h1, h2 => by simp [lv] at hn
  | .b o l r, 0, m, ok, hn, h1, h2 => by have := lv_pos l; simp only [lv] at hn; omega
  | .c z, n + 1, m, ok, hn, h1, h2 => by
    rw [show n + 1 + 3 = n + 3 + 1 from rfl, cs5, runF_eq rfl]
    simp only [ev_var, ev_cst, ev_tup, ev_lst, ev_bin, ev_neg, ev_cmp, ev_chain, ev_isc, ev_and, ev_or, ev_not, ev_ifx, ev_ix, ev_slA, ev_slB, ev_slC, ev_call, ev_callv, ev_prim, ev_rng, ev_srs, ev_srl, ev_dnew, ev_rev, ev_comp, ev_compf, ev_comp2, evs_nil, evs_cons, sr_seq, sr_rg1, sr_rg2, sr_zip, sr_enum, ex_set, ex_unp, ex_par2, ex_par3, ex_drop, ex_app, ex_ext, ex_rem, ex_put, ex_ret, ex_retV, ex_retN, ex_pass, ex_ife, ex_forr, ex_whl, ex_raise, ex_try, exs_nil, exs_cons, andK_t, andK_f, orK_t, orK_f, ixK_t, ixK_f, chK_t, chK_f, cvK_fn, ifK_t, ifK_f, forK_n, varK_s, rvK_s, unpK_s, ownK_t, lenK_t, seqK_l, seqK_t, seqK_s, zipK_l, zipK_t, enuK_l, enuK_t, negK_i, iscK_t, iscK_f, tryO_nx, tryO_ret, bd_ok, bd_err, bd_bad, on_ok, on_err, on_bad, th_nx, th_ret, th_err, th_bad, boolR_ok, boolR_err, intR_ok, intR_err, noErr_ok, okIf_true, b_addI, b_subI, b_mulI, b_fdI, b_mdI, b_pwI, b_shI, c_lt, c_le, c_gt, c_ge, c_scr, c_eqI, c_neI, c_neB, c_eqB, x_lst, x_tup, x_dcs, c_inS, c_niS, c_ltS, p_dictL, p_dictT, p_lenL, p_lenT, p_lenS, p_minI, p_maxI, p_isi, p_tupL, p_tupT, p_lstL, p_lstT, p_intB, p_intI, tyD, isD, view_eq, viewF_nil, viewF_cons, vw_none, vw_val, vw_own0, isOwn, appL, viewA_nil, viewA_cons, vA_some, vA_none, after_nil, bindS, bindTg, Option.bind_some, List.map_cons, List.map_nil, List.cons_append, List.nil_append, List.set_cons_zero, List.set_cons_succ, List.getElem?_cons_zero, List.getElem?_cons_succ, List.length_cons, List.length_nil, List.isEmpty_nil, List.isEmpty_cons, ↓reduceIte, outR_nx, outR_ret, outR_err, Bool.not_true, Bool.not_false, Bool.false_and, Bool.true_and, Bool.and_true, Bool.and_false, Bool.or_true, Bool.true_or, Bool.false_or, Bool.or_false, Bool.false_eq_true, decide_true, decide_false, at0, at1, at2, at3, nabs, nabs_neg, ncast, beq_self_eq_true, List.replicate_succ, List.replicate_zero, Nat.reduceLT, Nat.reduceLeDiff, Nat.reduceLT, Nat.reduceAdd, Int.reduceLT, Int.reduceLE, Int.reduceNeg, Int.reduceEq, Int.reduceBEq, Int.reduceSub, Int.reduceAdd, Int.reduceMul, Int.reduceToNat, Nat.reduceSub, Nat.reduceMul, Nat.reduceEqDiff, lg, reduceCtorEq, Option.map_some, Option.map_none, f5, leafC n z ok]
    rfl
  | .v i, n + 1, m, ok, hn, h1, h2 => by
    rw [show n + 1 + 3 = n + 3 + 1 from rfl, cs5, runF_eq rfl]
    simp only [ev_var, ev_cst, ev_tup, ev_lst, ev_bin, ev_neg, ev_cmp, ev_chain, ev_isc, ev_and, ev_or, ev_not, ev_ifx, ev_ix, ev_slA, ev_slB, ev_slC, ev_call, ev_callv, ev_prim, ev_rng, ev_srs, ev_srl, ev_dnew, ev_rev, ev_comp, ev_compf, ev_comp2, evs_nil, evs_cons, sr_seq, sr_rg1, sr_rg2, sr_zip, sr_enum, ex_set, ex_unp, ex_par2, ex_par3, ex_drop, ex_app, ex_ext, ex_rem, ex_put, ex_ret, ex_retV, ex_retN, ex_pass, ex_ife, ex_forr, ex_whl, ex_raise, ex_try, exs_nil, exs_cons, andK_t, andK_f, orK_t, orK_f, ixK_t, ixK_f, chK_t, chK_f, cvK_fn, ifK_t, ifK_f, forK_n, varK_s, rvK_s, unpK_s, ownK_t, lenK_t, seqK_l, seqK_t, seqK_s, zipK_l, zipK_t, enuK_l, enuK_t, negK_i, iscK_t, iscK_f, tryO_nx, tryO_ret, bd_ok, bd_err, bd_bad, on_ok, on_err, on_bad, th_nx, th_ret, th_err, th_bad, boolR_ok, boolR_err, intR_ok, intR_err, noErr_ok, okIf_true, b_addI, b_subI, b_mulI, b_fdI, b_mdI, b_pwI, b_shI, c_lt, c_le, c_gt, c_ge, c_scr, c_eqI, c_neI, c_neB, c_eqB, x_lst, x_tup, x_dcs, c_inS, c_niS, c_ltS, p_dictL, p_dictT, p_lenL, p_lenT, p_lenS, p_minI, p_maxI, p_isi, p_tupL, p_tupT, p_lstL, p_lstT, p_intB, p_intI, tyD, isD, view_eq, viewF_nil, viewF_cons, vw_none, vw_val, vw_own0, isOwn, appL, viewA_nil, viewA_cons, vA_some, vA_none, after_nil, bindS, bindTg, Option.bind_some, List.map_cons, List.map_nil, List.cons_append, List.nil_append, List.set_cons_zero, List.set_cons_succ, List.getElem?_cons_zero, List.getElem?_cons_succ, List.length_cons, List.length_nil, List.isEmpty_nil, List.isEmpty_cons, ↓reduceIte, outR_nx, outR_ret, outR_err, Bool.not_true, Bool.not_false, Bool.false_and, Bool.true_and, Bool.and_true, Bool.and_false, Bool.or_true, Bool.true_or, Bool.false_or, Bool.or_false, Bool.false_eq_true, decide_true, decide_false, at0, at1, at2, at3, nabs, nabs_neg, ncast, beq_self_eq_true, List.replicate_succ, List.replicate_zero, Nat.reduceLT, Nat.reduceLeDiff, Nat.reduceLT, Nat.reduceAdd, Int.reduceLT, Int.reduceLE, Int.reduceNeg, Int.reduceEq, Int.reduceBEq, Int.reduceSub, Int.reduceAdd, Int.reduceMul, Int.reduceToNat, Nat.reduceSub, Nat.reduceMul, Nat.reduceEqDiff, lg, reduceCtorEq, Option.map_some, Option.map_none, f5, leafV n i ok]
    rfl
  | .b o l r, n + 1, m, ok, hn, h1, h2 => by
    have p1 := lv_pos l
    have p2 := lv_pos r
    simp only [lv] at hn h2 ⊢
    have e1 := cntL l n (m - 1) ok.1 (by omega) (by omega) (by omega)
    have e2 := cntL r n (m - (lv l : Int)) ok.2 (by omega) (by omega) (by omega)
    have c1 : ¬ m < 2 := by omega
    have c2 : (lv l : Int) < m := by omega
    have lf : call fs (n + 3) 4 [.tup [.str (sg o), xD l, xD r]] = .ok (.bl false, false) := leafB (n + 2) o l r
    have tr : (D.tup [.str (sg o), xD l, xD r]) = xD (.b o l r) := rfl
    rw [show n + 1 + 3 = n + 3 + 1 from rfl, cs5, runF_eq rfl]
    simp only [ev_var, ev_cst, ev_tup, ev_lst, ev_bin, ev_neg, ev_cmp, ev_chain, ev_isc, ev_and, ev_or, ev_not, ev_ifx, ev_ix, ev_slA, ev_slB, ev_slC, ev_call, ev_callv, ev_prim, ev_rng, ev_srs, ev_srl, ev_dnew, ev_rev, ev_comp, ev_compf, ev_comp2, evs_nil, evs_cons, sr_seq, sr_rg1, sr_rg2, sr_zip, sr_enum, ex_set, ex_unp, ex_par2, ex_par3, ex_drop, ex_app, ex_ext, ex_rem, ex_put, ex_ret, ex_retV, ex_retN, ex_pass, ex_ife, ex_forr, ex_whl, ex_raise, ex_try, exs_nil, exs_cons, andK_t, andK_f, orK_t, orK_f, ixK_t, ixK_f, chK_t, chK_f, cvK_fn, ifK_t, ifK_f, forK_n, varK_s, rvK_s, unpK_s, ownK_t, lenK_t, seqK_l, seqK_t, seqK_s, zipK_l, zipK_t, enuK_l, enuK_t, negK_i, iscK_t, iscK_f, tryO_nx, tryO_ret, bd_ok, bd_err, bd_bad, on_ok, on_err, on_bad, th_nx, th_ret, th_err, th_bad, boolR_ok, boolR_err, intR_ok, intR_err, noErr_ok, okIf_true, b_addI, b_subI, b_mulI, b_fdI, b_mdI, b_pwI, b_shI, c_lt, c_le, c_gt, c_ge, c_scr, c_eqI, c_neI, c_neB, c_eqB, x_lst, x_tup, x_dcs, c_inS, c_niS, c_ltS, p_dictL, p_dictT, p_lenL, p_lenT, p_lenS, p_minI, p_maxI, p_isi, p_tupL, p_tupT, p_lstL, p_lstT, p_intB, p_intI, tyD, isD, view_eq, viewF_nil, viewF_cons, vw_none, vw_val, vw_own0, isOwn, appL, viewA_nil, viewA_cons, vA_some, vA_none, after_nil, bindS, bindTg, Option.bind_some, List.map_cons, List.map_nil, List.cons_append, List.nil_append, List.set_cons_zero, List.set_cons_succ, List.getElem?_cons_zero, List.getElem?_cons_succ, List.length_cons, List.length_nil, List.isEmpty_nil, List.isEmpty_cons, ↓reduceIte, outR_nx, outR_ret, outR_err, Bool.not_true, Bool.not_false, Bool.false_and, Bool.true_and, Bool.and_true, Bool.and_false, Bool.or_true, Bool.true_or, Bool.false_or, Bool.or_false, Bool.false_eq_true, decide_true, decide_false, at0, at1, at2, at3, nabs, nabs_neg, ncast, beq_self_eq_true, List.replicate_succ, List.replicate_zero, Nat.reduceLT, Nat.reduceLeDiff, Nat.reduceLT, Nat.reduceAdd, Int.reduceLT, Int.reduceLE, Int.reduceNeg, Int.reduceEq, Int.reduceBEq, Int.reduceSub, Int.reduceAdd, Int.reduceMul, Int.reduceToNat, Nat.reduceSub, Nat.reduceMul, Nat.reduceEqDiff, lg, reduceCtorEq, Option.map_some, Option.map_none, f5, xD, lf, c1, sgIn, e1, c2, e2]
    have e3 : (lv l : Int) + (lv r : Int) = ((lv l + lv r : Nat) : Int) := by omega
    rw [e3]
def goodX (x : X) : Prop := okX x ∧ lv x ≤ 6
theorem isExpr (n : Nat) (x : X) (h : goodX x) : call fs (n + 10) 6 [xD x] = .ok (.bl true, false) := by
  have q := cntL x (n + 6) 6 h.1 (by have := h.2; omega) (by omega) (by have := h.2; omega)
  have c : (lv x : Int) ≤ 6 := by have := h.2; omega
  rw [show n + 10 = n + 9 + 1 from rfl, cs6, runF_eq rfl]
  simp only [ev_var, ev_cst, ev_tup, ev_lst, ev_bin, ev_neg, ev_cmp, ev_chain, ev_isc, ev_and, ev_or, ev_not, ev_ifx, ev_ix, ev_slA, ev_slB, ev_slC, ev_call, ev_callv, ev_prim, ev_rng, ev_srs, ev_srl, ev_dnew, ev_rev, ev_comp, ev_compf, ev_comp2, evs_nil, evs_cons, sr_seq, sr_rg1, sr_rg2, sr_zip, sr_enum, ex_set, ex_unp, ex_par2, ex_par3, ex_drop, ex_app, ex_ext, ex_rem, ex_put, ex_ret, ex_retV, ex_retN, ex_pass, ex_ife, ex_forr, ex_whl, ex_raise, ex_try, exs_nil, exs_cons, andK_t, andK_f, orK_t, orK_f, ixK_t, ixK_f, chK_t, chK_f, cvK_fn, ifK_t, ifK_f, forK_n, varK_s, rvK_s, unpK_s, ownK_t, lenK_t, seqK_l, seqK_t, seqK_s, zipK_l, zipK_t, enuK_l, enuK_t, negK_i, iscK_t, iscK_f, tryO_nx, tryO_ret, bd_ok, bd_err, bd_bad, on_ok, on_err, on_bad, th_nx, th_ret, th_err, th_bad, boolR_ok, boolR_err, intR_ok, intR_err, noErr_ok, okIf_true, b_addI, b_subI, b_mulI, b_fdI, b_mdI, b_pwI, b_shI, c_lt, c_le, c_gt, c_ge, c_scr, c_eqI, c_neI, c_neB, c_eqB, x_lst, x_tup, x_dcs, c_inS, c_niS, c_ltS, p_dictL, p_dictT, p_lenL, p_lenT, p_lenS, p_minI, p_maxI, p_isi, p_tupL, p_tupT, p_lstL, p_lstT, p_intB, p_intI, tyD, isD, view_eq, viewF_nil, viewF_cons, vw_none, vw_val, vw_own0, isOwn, appL, viewA_nil, viewA_cons, vA_some, vA_none, after_nil, bindS, bindTg, Option.bind_some, List.map_cons, List.map_nil, List.cons_append, List.nil_append, List.set_cons_zero, List.set_cons_succ, List.getElem?_cons_zero, List.getElem?_cons_succ, List.length_cons, List.length_nil, List.isEmpty_nil, List.isEmpty_cons, ↓reduceIte, outR_nx, outR_ret, outR_err, Bool.not_true, Bool.not_false, Bool.false_and, Bool.true_and, Bool.and_true, Bool.and_false, Bool.or_true, Bool.true_or, Bool.false_or, Bool.or_false, Bool.false_eq_true, decide_true, decide_false, at0, at1, at2, at3, nabs, nabs_neg, ncast, beq_self_eq_true, List.replicate_succ, List.replicate_zero, Nat.reduceLT, Nat.reduceLeDiff, Nat.reduceLT, Nat.reduceAdd, Int.reduceLT, Int.reduceLE, Int.reduceNeg, Int.reduceEq, Int.reduceBEq, Int.reduceSub, Int.reduceAdd, Int.reduceMul, Int.reduceToNat, Nat.reduceSub, Nat.reduceMul, Nat.reduceEqDiff, lg, reduceCtorEq, Option.map_some, Option.map_none, f6, q, c]
theorem chkX (n : Nat) (x : X) (h : goodX x) : call fs (n + 11) 7 [xD x] = .ok (.non, false) := by
  rw [show n + 11 = n + 10 + 1 from rfl, cs7, runF_eq rfl]
  simp only [ev_var, ev_cst, ev_tup, ev_lst, ev_bin, ev_neg, ev_cmp, ev_chain, ev_isc, ev_and, ev_or, ev_not, ev_ifx, ev_ix, ev_slA, ev_slB, ev_slC, ev_call, ev_callv, ev_prim, ev_rng, ev_srs, ev_srl, ev_dnew, ev_rev, ev_comp, ev_compf, ev_comp2, evs_nil, evs_cons, sr_seq, sr_rg1, sr_rg2, sr_zip, sr_enum, ex_set, ex_unp, ex_par2, ex_par3, ex_drop, ex_app, ex_ext, ex_rem, ex_put, ex_ret, ex_retV, ex_retN, ex_pass, ex_ife, ex_forr, ex_whl, ex_raise, ex_try, exs_nil, exs_cons, andK_t, andK_f, orK_t, orK_f, ixK_t, ixK_f, chK_t, chK_f, cvK_fn, ifK_t, ifK_f, forK_n, varK_s, rvK_s, unpK_s, ownK_t, lenK_t, seqK_l, seqK_t, seqK_s, zipK_l, zipK_t, enuK_l, enuK_t, negK_i, iscK_t, iscK_f, tryO_nx, tryO_ret, bd_ok, bd_err, bd_bad, on_ok, on_err, on_bad, th_nx, th_ret, th_err, th_bad, boolR_ok, boolR_err, intR_ok, intR_err, noErr_ok, okIf_true, b_addI, b_subI, b_mulI, b_fdI, b_mdI, b_pwI, b_shI, c_lt, c_le, c_gt, c_ge, c_scr, c_eqI, c_neI, c_neB, c_eqB, x_lst, x_tup, x_dcs, c_inS, c_niS, c_ltS, p_dictL, p_dictT, p_lenL, p_lenT, p_lenS, p_minI, p_maxI, p_isi, p_tupL, p_tupT, p_lstL, p_lstT, p_intB, p_intI, tyD, isD, view_eq, viewF_nil, viewF_cons, vw_none, vw_val, vw_own0, isOwn, appL, viewA_nil, viewA_cons, vA_some, vA_none, after_nil, bindS, bindTg, Option.bind_some, List.map_cons, List.map_nil, List.cons_append, List.nil_append, List.set_cons_zero, List.set_cons_succ, List.getElem?_cons_zero, List.getElem?_cons_succ, List.length_cons, List.length_nil, List.isEmpty_nil, List.isEmpty_cons, ↓reduceIte, outR_nx, outR_ret, outR_err, Bool.not_true, Bool.not_false, Bool.false_and, Bool.true_and, Bool.and_true, Bool.and_false, Bool.or_true, Bool.true_or, Bool.false_or, Bool.or_false, Bool.false_eq_true, decide_true, decide_false, at0, at1, at2, at3, nabs, nabs_neg, ncast, beq_self_eq_true, List.replicate_succ, List.replicate_zero, Nat.reduceLT, Nat.reduceLeDiff, Nat.reduceLT, Nat.reduceAdd, Int.reduceLT, Int.reduceLE, Int.reduceNeg, Int.reduceEq, Int.reduceBEq, Int.reduceSub, Int.reduceAdd, Int.reduceMul, Int.reduceToNat, Nat.reduceSub, Nat.reduceMul, Nat.reduceEqDiff, lg, reduceCtorEq, Option.map_some, Option.map_none, f7, isExpr n x h]
/-! names -/
def nsS : X → Str | .c _ => "" | .v i => nmS i | .b _ l r => nsS l ++ nsS r
theorem nsS_list : ∀ x : X, (nsS x).cps.toList = (nmX x).map (97 + ·)
  | .c _ => rfl
  | .v _ => rfl
  | .b o l r => by
    show (nsS l ++ nsS r).cps.toList = (nmX l ++ nmX r).map _
    rw [List.map_append, ← nsS_list l, ← nsS_list r]
    exact TL.tl_append _ _
theorem nmX_le : ∀ x : X, (nmX x).length ≤ lv x
  | .c _ => by show 0 ≤ 1; omega
  | .v _ => Nat.le_refl _
  | .b o l r => by
    show (nmX l ++ nmX r).length ≤ lv l + lv r
    have := nmX_le l
    have := nmX_le r
    rw [List.length_append]; omega
theorem nsS_len (x : X) : (nsS x).length = (nmX x).length := by
  rw [TL.len_tl]
  show (nsS x).cps.toList.length = _
  rw [nsS_list, List.length_map]
theorem namesIn : ∀ (x : X) (n : Nat), lv x ≤ n → lv x ≤ 1000 → call fs n 8 [xD x] = .ok (.str (nsS x), false)
  | .c z, 0, hn, _ => by simp [lv] at hn
  | .v i, 0, hn, _ => by simp [lv] at hn
  | .b o l r, 0, hn, _ => by have := lv_pos l; simp only [lv] at hn; omega
  | .c z, n + 1, hn, _ => by
    rw [cs8, runF_eq rfl]
    simp only [ev_var, ev_cst, ev_tup, ev_lst, ev_bin, ev_neg, ev_cmp, ev_chain, ev_isc, ev_and, ev_or, ev_not, ev_ifx, ev_ix, ev_slA, ev_slB, ev_slC, ev_call, ev_callv, ev_prim, ev_rng, ev_srs, ev_srl, ev_dnew, ev_rev, ev_comp, ev_compf, ev_comp2, evs_nil, evs_cons, sr_seq, sr_rg1, sr_rg2, sr_zip, sr_enum, ex_set, ex_unp, ex_par2, ex_par3, ex_drop, ex_app, ex_ext, ex_rem, ex_put, ex_ret, ex_retV, ex_retN, ex_pass, ex_ife, ex_forr, ex_whl, ex_raise, ex_try, exs_nil, exs_cons, andK_t, andK_f, orK_t, orK_f, ixK_t, ixK_f, chK_t, chK_f, cvK_fn, ifK_t, ifK_f, forK_n, varK_s, rvK_s, unpK_s, ownK_t, lenK_t, seqK_l, seqK_t, seqK_s, zipK_l, zipK_t, enuK_l, enuK_t, negK_i, iscK_t, iscK_f, tryO_nx, tryO_ret, bd_ok, bd_err, bd_bad, on_ok, on_err, on_bad, th_nx, th_ret, th_err, th_bad, boolR_ok, boolR_err, intR_ok, intR_err, noErr_ok, okIf_true, b_addI, b_subI, b_mulI, b_fdI, b_mdI, b_pwI, b_shI, c_lt, c_le, c_gt, c_ge, c_scr, c_eqI, c_neI, c_neB, c_eqB, x_lst, x_tup, x_dcs, c_inS, c_niS, c_ltS, p_dictL, p_dictT, p_lenL, p_lenT, p_lenS, p_minI, p_maxI, p_isi, p_tupL, p_tupT, p_lstL, p_lstT, p_intB, p_intI, tyD, isD, view_eq, viewF_nil, viewF_cons, vw_none, vw_val, vw_own0, isOwn, appL, viewA_nil, viewA_cons, vA_some, vA_none, after_nil, bindS, bindTg, Option.bind_some, List.map_cons, List.map_nil, List.cons_append, List.nil_append, List.set_cons_zero, List.set_cons_succ, List.getElem?_cons_zero, List.getElem?_cons_succ, List.length_cons, List.length_nil, List.isEmpty_nil, List.isEmpty_cons, ↓reduceIte, outR_nx, outR_ret, outR_err, Bool.not_true, Bool.not_false, Bool.false_and, Bool.true_and, Bool.and_true, Bool.and_false, Bool.or_true, Bool.true_or, Bool.false_or, Bool.or_false, Bool.false_eq_true, decide_true, decide_false, at0, at1, at2, at3, nabs, nabs_neg, ncast, beq_self_eq_true, List.replicate_succ, List.replicate_zero, Nat.reduceLT, Nat.reduceLeDiff, Nat.reduceLT, Nat.reduceAdd, Int.reduceLT, Int.reduceLE, Int.reduceNeg, Int.reduceEq, Int.reduceBEq, Int.reduceSub, Int.reduceAdd, Int.reduceMul, Int.reduceToNat, Nat.reduceSub, Nat.reduceMul, Nat.reduceEqDiff, lg, reduceCtorEq, Option.map_some, Option.map_none, f8, xD, eqQ, okc, okv, kcc, kcv]
    rfl
  | .v i, n + 1, hn, _ => by
    rw [cs8, runF_eq rfl]
    simp only [ev_var, ev_cst, ev_tup, ev_lst, ev_bin, ev_neg, ev_cmp, ev_chain, ev_isc, ev_and, ev_or, ev_not, ev_ifx, ev_ix, ev_slA, ev_slB, ev_slC, ev_call, ev_callv, ev_prim, ev_rng, ev_srs, ev_srl, ev_dnew, ev_rev, ev_comp, ev_compf, ev_comp2, evs_nil, evs_cons, sr_seq, sr_rg1, sr_rg2, sr_zip, sr_enum, ex_set, ex_unp, ex_par2, ex_par3, ex_drop, ex_app, ex_ext, ex_rem, ex_put, ex_ret, ex_retV, ex_retN, ex_pass, ex_ife, ex_forr, ex_whl, ex_raise, ex_try, exs_nil, exs_cons, andK_t, andK_f, orK_t, orK_f, ixK_t, ixK_f, chK_t, chK_f, cvK_fn, ifK_t, ifK_f, forK_n, varK_s, rvK_s, unpK_s, ownK_t, lenK_t, seqK_l, seqK_t, seqK_s, zipK_l, zipK_t, enuK_l, enuK_t, negK_i, iscK_t, iscK_f, tryO_nx, tryO_ret, bd_ok, bd_err, bd_bad, on_ok, on_err, on_bad, th_nx, th_ret, th_err, th_bad, boolR_ok, boolR_err, intR_ok, intR_err, noErr_ok, okIf_true, b_addI, b_subI, b_mulI, b_fdI, b_mdI, b_pwI, b_shI, c_lt, c_le, c_gt, c_ge, c_scr, c_eqI, c_neI, c_neB, c_eqB, x_lst, x_tup, x_dcs, c_inS, c_niS, c_ltS, p_dictL, p_dictT, p_lenL, p_lenT, p_lenS, p_minI, p_maxI, p_isi, p_tupL, p_tupT, p_lstL, p_lstT, p_intB, p_intI, tyD, isD, view_eq, viewF_nil, viewF_cons, vw_none, vw_val, vw_own0, isOwn, appL, viewA_nil, viewA_cons, vA_some, vA_none, after_nil, bindS, bindTg, Option.bind_some, List.map_cons, List.map_nil, List.cons_append, List.nil_append, List.set_cons_zero, List.set_cons_succ, List.getElem?_cons_zero, List.getElem?_cons_succ, List.length_cons, List.length_nil, List.isEmpty_nil, List.isEmpty_cons, ↓reduceIte, outR_nx, outR_ret, outR_err, Bool.not_true, Bool.not_false, Bool.false_and, Bool.true_and, Bool.and_true, Bool.and_false, Bool.or_true, Bool.true_or, Bool.false_or, Bool.or_false, Bool.false_eq_true, decide_true, decide_false, at0, at1, at2, at3, nabs, nabs_neg, ncast, beq_self_eq_true, List.replicate_succ, List.replicate_zero, Nat.reduceLT, Nat.reduceLeDiff, Nat.reduceLT, Nat.reduceAdd, Int.reduceLT, Int.reduceLE, Int.reduceNeg, Int.reduceEq, Int.reduceBEq, Int.reduceSub, Int.reduceAdd, Int.reduceMul, Int.reduceToNat, Nat.reduceSub, Nat.reduceMul, Nat.reduceEqDiff, lg, reduceCtorEq, Option.map_some, Option.map_none, f8, xD, eqQ, okc, okv, kvv]
    rfl
  | .b o l r, n + 1, hn, hm => by
    have p1 := lv_pos l
    have p2 := lv_pos r
    simp only [lv] at hn hm
    have e1 := namesIn l n (by omega) (by omega)
    have e2 := namesIn r n (by omega) (by omega)
    have c : (nsS l).length + (nsS r).length ≤ szl := by
      have := nmX_le l
      have := nmX_le r
      rw [nsS_len, nsS_len]; unfold szl; omega
    rw [cs8, runF_eq rfl]
    simp only [ev_var, ev_cst, ev_tup, ev_lst, ev_bin, ev_neg, ev_cmp, ev_chain, ev_isc, ev_and, ev_or, ev_not, ev_ifx, ev_ix, ev_slA, ev_slB, ev_slC, ev_call, ev_callv, ev_prim, ev_rng, ev_srs, ev_srl, ev_dnew, ev_rev, ev_comp, ev_compf, ev_comp2, evs_nil, evs_cons, sr_seq, sr_rg1, sr_rg2, sr_zip, sr_enum, ex_set, ex_unp, ex_par2, ex_par3, ex_drop, ex_app, ex_ext, ex_rem, ex_put, ex_ret, ex_retV, ex_retN, ex_pass, ex_ife, ex_forr, ex_whl, ex_raise, ex_try, exs_nil, exs_cons, andK_t, andK_f, orK_t, orK_f, ixK_t, ixK_f, chK_t, chK_f, cvK_fn, ifK_t, ifK_f, forK_n, varK_s, rvK_s, unpK_s, ownK_t, lenK_t, seqK_l, seqK_t, seqK_s, zipK_l, zipK_t, enuK_l, enuK_t, negK_i, iscK_t, iscK_f, tryO_nx, tryO_ret, bd_ok, bd_err, bd_bad, on_ok, on_err, on_bad, th_nx, th_ret, th_err, th_bad, boolR_ok, boolR_err, intR_ok, intR_err, noErr_ok, okIf_true, b_addI, b_subI, b_mulI, b_fdI, b_mdI, b_pwI, b_shI, c_lt, c_le, c_gt, c_ge, c_scr, c_eqI, c_neI, c_neB, c_eqB, x_lst, x_tup, x_dcs, c_inS, c_niS, c_ltS, p_dictL, p_dictT, p_lenL, p_lenT, p_lenS, p_minI, p_maxI, p_isi, p_tupL, p_tupT, p_lstL, p_lstT, p_intB, p_intI, tyD, isD, view_eq, viewF_nil, viewF_cons, vw_none, vw_val, vw_own0, isOwn, appL, viewA_nil, viewA_cons, vA_some, vA_none, after_nil, bindS, bindTg, Option.bind_some, List.map_cons, List.map_nil, List.cons_append, List.nil_append, List.set_cons_zero, List.set_cons_succ, List.getElem?_cons_zero, List.getElem?_cons_succ, List.length_cons, List.length_nil, List.isEmpty_nil, List.isEmpty_cons, ↓reduceIte, outR_nx, outR_ret, outR_err, Bool.not_true, Bool.not_false, Bool.false_and, Bool.true_and, Bool.and_true, Bool.and_false, Bool.or_true, Bool.true_or, Bool.false_or, Bool.or_false, Bool.false_eq_true, decide_true, decide_false, at0, at1, at2, at3, nabs, nabs_neg, ncast, beq_self_eq_true, List.replicate_succ, List.replicate_zero, Nat.reduceLT, Nat.reduceLeDiff, Nat.reduceLT, Nat.reduceAdd, Int.reduceLT, Int.reduceLE, Int.reduceNeg, Int.reduceEq, Int.reduceBEq, Int.reduceSub, Int.reduceAdd, Int.reduceMul, Int.reduceToNat, Nat.reduceSub, Nat.reduceMul, Nat.reduceEqDiff, lg, reduceCtorEq, Option.map_some, Option.map_none, f8, xD, eqQ, oks, okc, okv, ksc, ksv, e1, e2, b_addSS, c]
    rfl

/-! boxes, points -/
abbrev pr (p : Int × Int) : D := .tup [.int p.1, .int p.2]
def rwB (r : Nat × Int × Int) : D := .tup [.str (nmS r.1), .int r.2.1, .int r.2.2]
abbrev bxD (bs : List (Nat × Int × Int)) : D := .tup (bs.map rwB)
def rwP (p : Nat × Int) : D := .tup [.str (nmS p.1), .int p.2]
abbrev ptD (ps : List (Nat × Int)) : D := .tup (ps.map rwP)
def asc : List Nat → Prop
  | a :: b :: r => a < b ∧ asc (b :: r)
  | _ => True
def goodRw (r : Nat × Int × Int) : Prop := r.1 < 4 ∧ -9999 ≤ r.2.1 ∧ r.2.1 ≤ r.2.2 ∧ r.2.2 ≤ 9999
def goodB (bs : List (Nat × Int × Int)) : Prop := bs.length ≤ 4 ∧ (∀ r ∈ bs, goodRw r) ∧ asc (bs.map (·.1))
def goodRp (p : Nat × Int) : Prop := p.1 < 4 ∧ -9999 ≤ p.2 ∧ p.2 ≤ 9999
def goodP (ps : List (Nat × Int)) : Prop := (∀ p ∈ ps, goodRp p) ∧ asc (ps.map (·.1))
theorem sl1 (xs : List D) : slD (.tup xs) (some 1) none = .ok (.tup (xs.drop 1), false) := by
  show R.ok (D.tup (SS.cutD xs (some 1) none), false) = _
  have e : SS.cutD xs (some 1) none = xs.drop 1 := by
    unfold SS.cutD
    have e1 : HT.sIx xs.length 0 (some 1) = min 1 xs.length := by
      unfold HT.sIx
      simp
    have e2 : HT.sIx xs.length xs.length none = xs.length := rfl
    rw [e1, e2]
    cases xs with
    | nil => rfl
    | cons a r =>
      have : min 1 (a :: r).length = 1 := by rw [List.length_cons]; omega
      rw [this, List.drop_succ_cons, List.drop_zero, List.length_cons, Nat.add_sub_cancel, List.take_length]
  rw [e]
theorem isRng (n : Nat) (l h : Int) (h1 : -9999 ≤ l) (h2 : l ≤ h) (h3 : h ≤ 9999) : call fs (n + 3) 2 [.tup [.int l, .int h]] = .ok (.bl true, false) := by
  have a1 := qInt n l (-9999) 9999 h1 (by omega)
  have a2 := qInt n h (-9999) 9999 (by omega) h3
  rw [cs2, runF_eq rfl]
  simp only [ev_var, ev_cst, ev_tup, ev_lst, ev_bin, ev_neg, ev_cmp, ev_chain, ev_isc, ev_and, ev_or, ev_not, ev_ifx, ev_ix, ev_slA, ev_slB, ev_slC, ev_call, ev_callv, ev_prim, ev_rng, ev_srs, ev_srl, ev_dnew, ev_rev, ev_comp, ev_compf, ev_comp2, evs_nil, evs_cons, sr_seq, sr_rg1, sr_rg2, sr_zip, sr_enum, ex_set, ex_unp, ex_par2, ex_par3, ex_drop, ex_app, ex_ext, ex_rem, ex_put, ex_ret, ex_retV, ex_retN, ex_pass, ex_ife, ex_forr, ex_whl, ex_raise, ex_try, exs_nil, exs_cons, andK_t, andK_f, orK_t, orK_f, ixK_t, ixK_f, chK_t, chK_f, cvK_fn, ifK_t, ifK_f, forK_n, varK_s, rvK_s, unpK_s, ownK_t, lenK_t, seqK_l, seqK_t, seqK_s, zipK_l, zipK_t, enuK_l, enuK_t, negK_i, iscK_t, iscK_f, tryO_nx, tryO_ret, bd_ok, bd_err, bd_bad, on_ok, on_err, on_bad, th_nx, th_ret, th_err, th_bad, boolR_ok, boolR_err, intR_ok, intR_err, noErr_ok, okIf_true, b_addI, b_subI, b_mulI, b_fdI, b_mdI, b_pwI, b_shI, c_lt, c_le, c_gt, c_ge, c_scr, c_eqI, c_neI, c_neB, c_eqB, x_lst, x_tup, x_dcs, c_inS, c_niS, c_ltS, p_dictL, p_dictT, p_lenL, p_lenT, p_lenS, p_minI, p_maxI, p_isi, p_tupL, p_tupT, p_lstL, p_lstT, p_intB, p_intI, tyD, isD, view_eq, viewF_nil, viewF_cons, vw_none, vw_val, vw_own0, isOwn, appL, viewA_nil, viewA_cons, vA_some, vA_none, after_nil, bindS, bindTg, Option.bind_some, List.map_cons, List.map_nil, List.cons_append, List.nil_append, List.set_cons_zero, List.set_cons_succ, List.getElem?_cons_zero, List.getElem?_cons_succ, List.length_cons, List.length_nil, List.isEmpty_nil, List.isEmpty_cons, ↓reduceIte, outR_nx, outR_ret, outR_err, Bool.not_true, Bool.not_false, Bool.false_and, Bool.true_and, Bool.and_true, Bool.and_false, Bool.or_true, Bool.true_or, Bool.false_or, Bool.or_false, Bool.false_eq_true, decide_true, decide_false, at0, at1, at2, at3, nabs, nabs_neg, ncast, beq_self_eq_true, List.replicate_succ, List.replicate_zero, Nat.reduceLT, Nat.reduceLeDiff, Nat.reduceLT, Nat.reduceAdd, Int.reduceLT, Int.reduceLE, Int.reduceNeg, Int.reduceEq, Int.reduceBEq, Int.reduceSub, Int.reduceAdd, Int.reduceMul, Int.reduceToNat, Nat.reduceSub, Nat.reduceMul, Nat.reduceEqDiff, lg, reduceCtorEq, Option.map_some, Option.map_none, f2, cmpK, compL, cmpT, wipeE, a1, a2, h2, p_all, bls?, List.all_cons, List.all_nil, id]
theorem boxRow (n : Nat) (r : Nat × Int × Int) (h : goodRw r) : call fs (n + 4) 9 [rwB r] = .ok (.bl true, false) := by
  obtain ⟨i, l, u⟩ := r
  obtain ⟨h1, h2, h3, h4⟩ := h
  have q := isRng n l u h2 h3 h4
  have d : List.drop 1 [D.str (nmS i), D.int l, D.int u] = [D.int l, D.int u] := rfl
  rw [cs9, runF_eq rfl]
  simp only [ev_var, ev_cst, ev_tup, ev_lst, ev_bin, ev_neg, ev_cmp, ev_chain, ev_isc, ev_and, ev_or, ev_not, ev_ifx, ev_ix, ev_slA, ev_slB, ev_slC, ev_call, ev_callv, ev_prim, ev_rng, ev_srs, ev_srl, ev_dnew, ev_rev, ev_comp, ev_compf, ev_comp2, evs_nil, evs_cons, sr_seq, sr_rg1, sr_rg2, sr_zip, sr_enum, ex_set, ex_unp, ex_par2, ex_par3, ex_drop, ex_app, ex_ext, ex_rem, ex_put, ex_ret, ex_retV, ex_retN, ex_pass, ex_ife, ex_forr, ex_whl, ex_raise, ex_try, exs_nil, exs_cons, andK_t, andK_f, orK_t, orK_f, ixK_t, ixK_f, chK_t, chK_f, cvK_fn, ifK_t, ifK_f, forK_n, varK_s, rvK_s, unpK_s, ownK_t, lenK_t, seqK_l, seqK_t, seqK_s, zipK_l, zipK_t, enuK_l, enuK_t, negK_i, iscK_t, iscK_f, tryO_nx, tryO_ret, bd_ok, bd_err, bd_bad, on_ok, on_err, on_bad, th_nx, th_ret, th_err, th_bad, boolR_ok, boolR_err, intR_ok, intR_err, noErr_ok, okIf_true, b_addI, b_subI, b_mulI, b_fdI, b_mdI, b_pwI, b_shI, c_lt, c_le, c_gt, c_ge, c_scr, c_eqI, c_neI, c_neB, c_eqB, x_lst, x_tup, x_dcs, c_inS, c_niS, c_ltS, p_dictL, p_dictT, p_lenL, p_lenT, p_lenS, p_minI, p_maxI, p_isi, p_tupL, p_tupT, p_lstL, p_lstT, p_intB, p_intI, tyD, isD, view_eq, viewF_nil, viewF_cons, vw_none, vw_val, vw_own0, isOwn, appL, viewA_nil, viewA_cons, vA_some, vA_none, after_nil, bindS, bindTg, Option.bind_some, List.map_cons, List.map_nil, List.cons_append, List.nil_append, List.set_cons_zero, List.set_cons_succ, List.getElem?_cons_zero, List.getElem?_cons_succ, List.length_cons, List.length_nil, List.isEmpty_nil, List.isEmpty_cons, ↓reduceIte, outR_nx, outR_ret, outR_err, Bool.not_true, Bool.not_false, Bool.false_and, Bool.true_and, Bool.and_true, Bool.and_false, Bool.or_true, Bool.true_or, Bool.false_or, Bool.or_false, Bool.false_eq_true, decide_true, decide_false, at0, at1, at2, at3, nabs, nabs_neg, ncast, beq_self_eq_true, List.replicate_succ, List.replicate_zero, Nat.reduceLT, Nat.reduceLeDiff, Nat.reduceLT, Nat.reduceAdd, Int.reduceLT, Int.reduceLE, Int.reduceNeg, Int.reduceEq, Int.reduceBEq, Int.reduceSub, Int.reduceAdd, Int.reduceMul, Int.reduceToNat, Nat.reduceSub, Nat.reduceMul, Nat.reduceEqDiff, lg, reduceCtorEq, Option.map_some, Option.map_none, f9, rwB, p_lenZ, nmLI, nmLS, inN h1, sl1, d, q]
theorem ptRow (n : Nat) (p : Nat × Int) (h : goodRp p) : call fs (n + 3) 14 [rwP p] = .ok (.bl true, false) := by
  obtain ⟨i, l⟩ := p
  obtain ⟨h1, h2, h3⟩ := h
  have q := qInt n l (-9999) 9999 h2 h3
  rw [cs14, runF_eq rfl]
  simp only [ev_var, ev_cst, ev_tup, ev_lst, ev_bin, ev_neg, ev_cmp, ev_chain, ev_isc, ev_and, ev_or, ev_not, ev_ifx, ev_ix, ev_slA, ev_slB, ev_slC, ev_call, ev_callv, ev_prim, ev_rng, ev_srs, ev_srl, ev_dnew, ev_rev, ev_comp, ev_compf, ev_comp2, evs_nil, evs_cons, sr_seq, sr_rg1, sr_rg2, sr_zip, sr_enum, ex_set, ex_unp, ex_par2, ex_par3, ex_drop, ex_app, ex_ext, ex_rem, ex_put, ex_ret, ex_retV, ex_retN, ex_pass, ex_ife, ex_forr, ex_whl, ex_raise, ex_try, exs_nil, exs_cons, andK_t, andK_f, orK_t, orK_f, ixK_t, ixK_f, chK_t, chK_f, cvK_fn, ifK_t, ifK_f, forK_n, varK_s, rvK_s, unpK_s, ownK_t, lenK_t, seqK_l, seqK_t, seqK_s, zipK_l, zipK_t, enuK_l, enuK_t, negK_i, iscK_t, iscK_f, tryO_nx, tryO_ret, bd_ok, bd_err, bd_bad, on_ok, on_err, on_bad, th_nx, th_ret, th_err, th_bad, boolR_ok, boolR_err, intR_ok, intR_err, noErr_ok, okIf_true, b_addI, b_subI, b_mulI, b_fdI, b_mdI, b_pwI, b_shI, c_lt, c_le, c_gt, c_ge, c_scr, c_eqI, c_neI, c_neB, c_eqB, x_lst, x_tup, x_dcs, c_inS, c_niS, c_ltS, p_dictL, p_dictT, p_lenL, p_lenT, p_lenS, p_minI, p_maxI, p_isi, p_tupL, p_tupT, p_lstL, p_lstT, p_intB, p_intI, tyD, isD, view_eq, viewF_nil, viewF_cons, vw_none, vw_val, vw_own0, isOwn, appL, viewA_nil, viewA_cons, vA_some, vA_none, after_nil, bindS, bindTg, Option.bind_some, List.map_cons, List.map_nil, List.cons_append, List.nil_append, List.set_cons_zero, List.set_cons_succ, List.getElem?_cons_zero, List.getElem?_cons_succ, List.length_cons, List.length_nil, List.isEmpty_nil, List.isEmpty_cons, ↓reduceIte, outR_nx, outR_ret, outR_err, Bool.not_true, Bool.not_false, Bool.false_and, Bool.true_and, Bool.and_true, Bool.and_false, Bool.or_true, Bool.true_or, Bool.false_or, Bool.or_false, Bool.false_eq_true, decide_true, decide_false, at0, at1, at2, at3, nabs, nabs_neg, ncast, beq_self_eq_true, List.replicate_succ, List.replicate_zero, Nat.reduceLT, Nat.reduceLeDiff, Nat.reduceLT, Nat.reduceAdd, Int.reduceLT, Int.reduceLE, Int.reduceNeg, Int.reduceEq, Int.reduceBEq, Int.reduceSub, Int.reduceAdd, Int.reduceMul, Int.reduceToNat, Nat.reduceSub, Nat.reduceMul, Nat.reduceEqDiff, lg, reduceCtorEq, Option.map_some, Option.map_none, f14, rwP, p_lenZ, nmLI, nmLS, inN h1, q]
theorem zip_mp {α : Type} (f : α → D) : ∀ l m : List α, zipD (l.map f) (m.map f) = (l.zip m).map fun x => .tup [f x.1, f x.2]
  | [], _ => by simp [zipD]
  | _ :: _, [] => by simp [zipD]
  | a :: l, b :: m => by
    simp only [List.map_cons, zipD, List.zip_cons_cons, zip_mp f l m]
theorem asc_zip {α : Type} (k : α → Nat) : ∀ l : List α, asc (l.map k) → ∀ p ∈ l.zip (l.drop 1), k p.1 < k p.2
  | [], _, p, hp => by simp at hp
  | [_], _, p, hp => by simp at hp
  | a :: b :: r, h, p, hp => by
    simp only [List.map_cons, asc] at h
    have e : (a :: b :: r).zip ((a :: b :: r).drop 1) = (a, b) :: (b :: r).zip ((b :: r).drop 1) := rfl
    rw [e] at hp
    rcases List.mem_cons.mp hp with rfl | hp
    · exact h.1
    · exact asc_zip k (b :: r) h.2 p hp
theorem nm_lt {i j : Nat} (h : i < j) : (nmS i).cps.toList < (nmS j).cps.toList := by
  show [97 + i] < [97 + j]
  exact List.Lex.rel (by omega)
theorem all_true {α : Type} (l : List α) : (l.all fun _ => true) = true := by simp
theorem risesB (n : Nat) (bs : List (Nat × Int × Int)) (h : asc (bs.map (·.1))) : call fs (n + 1) 10 [bxD bs] = .ok (.bl true, false) := by
  have z := asc_zip (·.1) bs h
  rw [cs10, runF_eq rfl]
  simp only [ev_var, ev_cst, ev_tup, ev_lst, ev_bin, ev_neg, ev_cmp, ev_chain, ev_isc, ev_and, ev_or, ev_not, ev_ifx, ev_ix, ev_slA, ev_slB, ev_slC, ev_call, ev_callv, ev_prim, ev_rng, ev_srs, ev_srl, ev_dnew, ev_rev, ev_comp, ev_compf, ev_comp2, evs_nil, evs_cons, sr_seq, sr_rg1, sr_rg2, sr_zip, sr_enum, ex_set, ex_unp, ex_par2, ex_par3, ex_drop, ex_app, ex_ext, ex_rem, ex_put, ex_ret, ex_retV, ex_retN, ex_pass, ex_ife, ex_forr, ex_whl, ex_raise, ex_try, exs_nil, exs_cons, andK_t, andK_f, orK_t, orK_f, ixK_t, ixK_f, chK_t, chK_f, cvK_fn, ifK_t, ifK_f, forK_n, varK_s, rvK_s, unpK_s, ownK_t, lenK_t, seqK_l, seqK_t, seqK_s, zipK_l, zipK_t, enuK_l, enuK_t, negK_i, iscK_t, iscK_f, tryO_nx, tryO_ret, bd_ok, bd_err, bd_bad, on_ok, on_err, on_bad, th_nx, th_ret, th_err, th_bad, boolR_ok, boolR_err, intR_ok, intR_err, noErr_ok, okIf_true, b_addI, b_subI, b_mulI, b_fdI, b_mdI, b_pwI, b_shI, c_lt, c_le, c_gt, c_ge, c_scr, c_eqI, c_neI, c_neB, c_eqB, x_lst, x_tup, x_dcs, c_inS, c_niS, c_ltS, p_dictL, p_dictT, p_lenL, p_lenT, p_lenS, p_minI, p_maxI, p_isi, p_tupL, p_tupT, p_lstL, p_lstT, p_intB, p_intI, tyD, isD, view_eq, viewF_nil, viewF_cons, vw_none, vw_val, vw_own0, isOwn, appL, viewA_nil, viewA_cons, vA_some, vA_none, after_nil, bindS, bindTg, Option.bind_some, List.map_cons, List.map_nil, List.cons_append, List.nil_append, List.set_cons_zero, List.set_cons_succ, List.getElem?_cons_zero, List.getElem?_cons_succ, List.length_cons, List.length_nil, List.isEmpty_nil, List.isEmpty_cons, ↓reduceIte, outR_nx, outR_ret, outR_err, Bool.not_true, Bool.not_false, Bool.false_and, Bool.true_and, Bool.and_true, Bool.and_false, Bool.or_true, Bool.true_or, Bool.false_or, Bool.or_false, Bool.false_eq_true, decide_true, decide_false, at0, at1, at2, at3, nabs, nabs_neg, ncast, beq_self_eq_true, List.replicate_succ, List.replicate_zero, Nat.reduceLT, Nat.reduceLeDiff, Nat.reduceLT, Nat.reduceAdd, Int.reduceLT, Int.reduceLE, Int.reduceNeg, Int.reduceEq, Int.reduceBEq, Int.reduceSub, Int.reduceAdd, Int.reduceMul, Int.reduceToNat, Nat.reduceSub, Nat.reduceMul, Nat.reduceEqDiff, lg, reduceCtorEq, Option.map_some, Option.map_none, f10, sl1]
  rw [← List.map_drop, zip_mp, cmpK_mp (g := fun _ => .bl true) fun p hp => ?_]
  · simp only [ev_var, ev_cst, ev_tup, ev_lst, ev_bin, ev_neg, ev_cmp, ev_chain, ev_isc, ev_and, ev_or, ev_not, ev_ifx, ev_ix, ev_slA, ev_slB, ev_slC, ev_call, ev_callv, ev_prim, ev_rng, ev_srs, ev_srl, ev_dnew, ev_rev, ev_comp, ev_compf, ev_comp2, evs_nil, evs_cons, sr_seq, sr_rg1, sr_rg2, sr_zip, sr_enum, ex_set, ex_unp, ex_par2, ex_par3, ex_drop, ex_app, ex_ext, ex_rem, ex_put, ex_ret, ex_retV, ex_retN, ex_pass, ex_ife, ex_forr, ex_whl, ex_raise, ex_try, exs_nil, exs_cons, andK_t, andK_f, orK_t, orK_f, ixK_t, ixK_f, chK_t, chK_f, cvK_fn, ifK_t, ifK_f, forK_n, varK_s, rvK_s, unpK_s, ownK_t, lenK_t, seqK_l, seqK_t, seqK_s, zipK_l, zipK_t, enuK_l, enuK_t, negK_i, iscK_t, iscK_f, tryO_nx, tryO_ret, bd_ok, bd_err, bd_bad, on_ok, on_err, on_bad, th_nx, th_ret, th_err, th_bad, boolR_ok, boolR_err, intR_ok, intR_err, noErr_ok, okIf_true, b_addI, b_subI, b_mulI, b_fdI, b_mdI, b_pwI, b_shI, c_lt, c_le, c_gt, c_ge, c_scr, c_eqI, c_neI, c_neB, c_eqB, x_lst, x_tup, x_dcs, c_inS, c_niS, c_ltS, p_dictL, p_dictT, p_lenL, p_lenT, p_lenS, p_minI, p_maxI, p_isi, p_tupL, p_tupT, p_lstL, p_lstT, p_intB, p_intI, tyD, isD, view_eq, viewF_nil, viewF_cons, vw_none, vw_val, vw_own0, isOwn, appL, viewA_nil, viewA_cons, vA_some, vA_none, after_nil, bindS, bindTg, Option.bind_some, List.map_cons, List.map_nil, List.cons_append, List.nil_append, List.set_cons_zero, List.set_cons_succ, List.getElem?_cons_zero, List.getElem?_cons_succ, List.length_cons, List.length_nil, List.isEmpty_nil, List.isEmpty_cons, ↓reduceIte, outR_nx, outR_ret, outR_err, Bool.not_true, Bool.not_false, Bool.false_and, Bool.true_and, Bool.and_true, Bool.and_false, Bool.or_true, Bool.true_or, Bool.false_or, Bool.or_false, Bool.false_eq_true, decide_true, decide_false, at0, at1, at2, at3, nabs, nabs_neg, ncast, beq_self_eq_true, List.replicate_succ, List.replicate_zero, Nat.reduceLT, Nat.reduceLeDiff, Nat.reduceLT, Nat.reduceAdd, Int.reduceLT, Int.reduceLE, Int.reduceNeg, Int.reduceEq, Int.reduceBEq, Int.reduceSub, Int.reduceAdd, Int.reduceMul, Int.reduceToNat, Nat.reduceSub, Nat.reduceMul, Nat.reduceEqDiff, lg, reduceCtorEq, Option.map_some, Option.map_none, p_allM, all_true]
  · simp only [ev_var, ev_cst, ev_tup, ev_lst, ev_bin, ev_neg, ev_cmp, ev_chain, ev_isc, ev_and, ev_or, ev_not, ev_ifx, ev_ix, ev_slA, ev_slB, ev_slC, ev_call, ev_callv, ev_prim, ev_rng, ev_srs, ev_srl, ev_dnew, ev_rev, ev_comp, ev_compf, ev_comp2, evs_nil, evs_cons, sr_seq, sr_rg1, sr_rg2, sr_zip, sr_enum, ex_set, ex_unp, ex_par2, ex_par3, ex_drop, ex_app, ex_ext, ex_rem, ex_put, ex_ret, ex_retV, ex_retN, ex_pass, ex_ife, ex_forr, ex_whl, ex_raise, ex_try, exs_nil, exs_cons, andK_t, andK_f, orK_t, orK_f, ixK_t, ixK_f, chK_t, chK_f, cvK_fn, ifK_t, ifK_f, forK_n, varK_s, rvK_s, unpK_s, ownK_t, lenK_t, seqK_l, seqK_t, seqK_s, zipK_l, zipK_t, enuK_l, enuK_t, negK_i, iscK_t, iscK_f, tryO_nx, tryO_ret, bd_ok, bd_err, bd_bad, on_ok, on_err, on_bad, th_nx, th_ret, th_err, th_bad, boolR_ok, boolR_err, intR_ok, intR_err, noErr_ok, okIf_true, b_addI, b_subI, b_mulI, b_fdI, b_mdI, b_pwI, b_shI, c_lt, c_le, c_gt, c_ge, c_scr, c_eqI, c_neI, c_neB, c_eqB, x_lst, x_tup, x_dcs, c_inS, c_niS, c_ltS, p_dictL, p_dictT, p_lenL, p_lenT, p_lenS, p_minI, p_maxI, p_isi, p_tupL, p_tupT, p_lstL, p_lstT, p_intB, p_intI, tyD, isD, view_eq, viewF_nil, viewF_cons, vw_none, vw_val, vw_own0, isOwn, appL, viewA_nil, viewA_cons, vA_some, vA_none, after_nil, bindS, bindTg, Option.bind_some, List.map_cons, List.map_nil, List.cons_append, List.nil_append, List.set_cons_zero, List.set_cons_succ, List.getElem?_cons_zero, List.getElem?_cons_succ, List.length_cons, List.length_nil, List.isEmpty_nil, List.isEmpty_cons, ↓reduceIte, outR_nx, outR_ret, outR_err, Bool.not_true, Bool.not_false, Bool.false_and, Bool.true_and, Bool.and_true, Bool.and_false, Bool.or_true, Bool.true_or, Bool.false_or, Bool.or_false, Bool.false_eq_true, decide_true, decide_false, at0, at1, at2, at3, nabs, nabs_neg, ncast, beq_self_eq_true, List.replicate_succ, List.replicate_zero, Nat.reduceLT, Nat.reduceLeDiff, Nat.reduceLT, Nat.reduceAdd, Int.reduceLT, Int.reduceLE, Int.reduceNeg, Int.reduceEq, Int.reduceBEq, Int.reduceSub, Int.reduceAdd, Int.reduceMul, Int.reduceToNat, Nat.reduceSub, Nat.reduceMul, Nat.reduceEqDiff, lg, reduceCtorEq, Option.map_some, Option.map_none, cmpT, wipeE, rwB, nm_lt (z p hp)]
theorem risesP (n : Nat) (bs : List (Nat × Int)) (h : asc (bs.map (·.1))) : call fs (n + 1) 10 [ptD bs] = .ok (.bl true, false) := by
  have z := asc_zip (·.1) bs h
  rw [cs10, runF_eq rfl]
  simp only [ev_var, ev_cst, ev_tup, ev_lst, ev_bin, ev_neg, ev_cmp, ev_chain, ev_isc, ev_and, ev_or, ev_not, ev_ifx, ev_ix, ev_slA, ev_slB, ev_slC, ev_call, ev_callv, ev_prim, ev_rng, ev_srs, ev_srl, ev_dnew, ev_rev, ev_comp, ev_compf, ev_comp2, evs_nil, evs_cons, sr_seq, sr_rg1, sr_rg2, sr_zip, sr_enum, ex_set, ex_unp, ex_par2, ex_par3, ex_drop, ex_app, ex_ext, ex_rem, ex_put, ex_ret, ex_retV, ex_retN, ex_pass, ex_ife, ex_forr, ex_whl, ex_raise, ex_try, exs_nil, exs_cons, andK_t, andK_f, orK_t, orK_f, ixK_t, ixK_f, chK_t, chK_f, cvK_fn, ifK_t, ifK_f, forK_n, varK_s, rvK_s, unpK_s, ownK_t, lenK_t, seqK_l, seqK_t, seqK_s, zipK_l, zipK_t, enuK_l, enuK_t, negK_i, iscK_t, iscK_f, tryO_nx, tryO_ret, bd_ok, bd_err, bd_bad, on_ok, on_err, on_bad, th_nx, th_ret, th_err, th_bad, boolR_ok, boolR_err, intR_ok, intR_err, noErr_ok, okIf_true, b_addI, b_subI, b_mulI, b_fdI, b_mdI, b_pwI, b_shI, c_lt, c_le, c_gt, c_ge, c_scr, c_eqI, c_neI, c_neB, c_eqB, x_lst, x_tup, x_dcs, c_inS, c_niS, c_ltS, p_dictL, p_dictT, p_lenL, p_lenT, p_lenS, p_minI, p_maxI, p_isi, p_tupL, p_tupT, p_lstL, p_lstT, p_intB, p_intI, tyD, isD, view_eq, viewF_nil, viewF_cons, vw_none, vw_val, vw_own0, isOwn, appL, viewA_nil, viewA_cons, vA_some, vA_none, after_nil, bindS, bindTg, Option.bind_some, List.map_cons, List.map_nil, List.cons_append, List.nil_append, List.set_cons_zero, List.set_cons_succ, List.getElem?_cons_zero, List.getElem?_cons_succ, List.length_cons, List.length_nil, List.isEmpty_nil, List.isEmpty_cons, ↓reduceIte, outR_nx, outR_ret, outR_err, Bool.not_true, Bool.not_false, Bool.false_and, Bool.true_and, Bool.and_true, Bool.and_false, Bool.or_true, Bool.true_or, Bool.false_or, Bool.or_false, Bool.false_eq_true, decide_true, decide_false, at0, at1, at2, at3, nabs, nabs_neg, ncast, beq_self_eq_true, List.replicate_succ, List.replicate_zero, Nat.reduceLT, Nat.reduceLeDiff, Nat.reduceLT, Nat.reduceAdd, Int.reduceLT, Int.reduceLE, Int.reduceNeg, Int.reduceEq, Int.reduceBEq, Int.reduceSub, Int.reduceAdd, Int.reduceMul, Int.reduceToNat, Nat.reduceSub, Nat.reduceMul, Nat.reduceEqDiff, lg, reduceCtorEq, Option.map_some, Option.map_none, f10, sl1]
  rw [← List.map_drop, zip_mp, cmpK_mp (g := fun _ => .bl true) fun p hp => ?_]
  · simp only [ev_var, ev_cst, ev_tup, ev_lst, ev_bin, ev_neg, ev_cmp, ev_chain, ev_isc, ev_and, ev_or, ev_not, ev_ifx, ev_ix, ev_slA, ev_slB, ev_slC, ev_call, ev_callv, ev_prim, ev_rng, ev_srs, ev_srl, ev_dnew, ev_rev, ev_comp, ev_compf, ev_comp2, evs_nil, evs_cons, sr_seq, sr_rg1, sr_rg2, sr_zip, sr_enum, ex_set, ex_unp, ex_par2, ex_par3, ex_drop, ex_app, ex_ext, ex_rem, ex_put, ex_ret, ex_retV, ex_retN, ex_pass, ex_ife, ex_forr, ex_whl, ex_raise, ex_try, exs_nil, exs_cons, andK_t, andK_f, orK_t, orK_f, ixK_t, ixK_f, chK_t, chK_f, cvK_fn, ifK_t, ifK_f, forK_n, varK_s, rvK_s, unpK_s, ownK_t, lenK_t, seqK_l, seqK_t, seqK_s, zipK_l, zipK_t, enuK_l, enuK_t, negK_i, iscK_t, iscK_f, tryO_nx, tryO_ret, bd_ok, bd_err, bd_bad, on_ok, on_err, on_bad, th_nx, th_ret, th_err, th_bad, boolR_ok, boolR_err, intR_ok, intR_err, noErr_ok, okIf_true, b_addI, b_subI, b_mulI, b_fdI, b_mdI, b_pwI, b_shI, c_lt, c_le, c_gt, c_ge, c_scr, c_eqI, c_neI, c_neB, c_eqB, x_lst, x_tup, x_dcs, c_inS, c_niS, c_ltS, p_dictL, p_dictT, p_lenL, p_lenT, p_lenS, p_minI, p_maxI, p_isi, p_tupL, p_tupT, p_lstL, p_lstT, p_intB, p_intI, tyD, isD, view_eq, viewF_nil, viewF_cons, vw_none, vw_val, vw_own0, isOwn, appL, viewA_nil, viewA_cons, vA_some, vA_none, after_nil, bindS, bindTg, Option.bind_some, List.map_cons, List.map_nil, List.cons_append, List.nil_append, List.set_cons_zero, List.set_cons_succ, List.getElem?_cons_zero, List.getElem?_cons_succ, List.length_cons, List.length_nil, List.isEmpty_nil, List.isEmpty_cons, ↓reduceIte, outR_nx, outR_ret, outR_err, Bool.not_true, Bool.not_false, Bool.false_and, Bool.true_and, Bool.and_true, Bool.and_false, Bool.or_true, Bool.true_or, Bool.false_or, Bool.or_false, Bool.false_eq_true, decide_true, decide_false, at0, at1, at2, at3, nabs, nabs_neg, ncast, beq_self_eq_true, List.replicate_succ, List.replicate_zero, Nat.reduceLT, Nat.reduceLeDiff, Nat.reduceLT, Nat.reduceAdd, Int.reduceLT, Int.reduceLE, Int.reduceNeg, Int.reduceEq, Int.reduceBEq, Int.reduceSub, Int.reduceAdd, Int.reduceMul, Int.reduceToNat, Nat.reduceSub, Nat.reduceMul, Nat.reduceEqDiff, lg, reduceCtorEq, Option.map_some, Option.map_none, p_allM, all_true]
  · simp only [ev_var, ev_cst, ev_tup, ev_lst, ev_bin, ev_neg, ev_cmp, ev_chain, ev_isc, ev_and, ev_or, ev_not, ev_ifx, ev_ix, ev_slA, ev_slB, ev_slC, ev_call, ev_callv, ev_prim, ev_rng, ev_srs, ev_srl, ev_dnew, ev_rev, ev_comp, ev_compf, ev_comp2, evs_nil, evs_cons, sr_seq, sr_rg1, sr_rg2, sr_zip, sr_enum, ex_set, ex_unp, ex_par2, ex_par3, ex_drop, ex_app, ex_ext, ex_rem, ex_put, ex_ret, ex_retV, ex_retN, ex_pass, ex_ife, ex_forr, ex_whl, ex_raise, ex_try, exs_nil, exs_cons, andK_t, andK_f, orK_t, orK_f, ixK_t, ixK_f, chK_t, chK_f, cvK_fn, ifK_t, ifK_f, forK_n, varK_s, rvK_s, unpK_s, ownK_t, lenK_t, seqK_l, seqK_t, seqK_s, zipK_l, zipK_t, enuK_l, enuK_t, negK_i, iscK_t, iscK_f, tryO_nx, tryO_ret, bd_ok, bd_err, bd_bad, on_ok, on_err, on_bad, th_nx, th_ret, th_err, th_bad, boolR_ok, boolR_err, intR_ok, intR_err, noErr_ok, okIf_true, b_addI, b_subI, b_mulI, b_fdI, b_mdI, b_pwI, b_shI, c_lt, c_le, c_gt, c_ge, c_scr, c_eqI, c_neI, c_neB, c_eqB, x_lst, x_tup, x_dcs, c_inS, c_niS, c_ltS, p_dictL, p_dictT, p_lenL, p_lenT, p_lenS, p_minI, p_maxI, p_isi, p_tupL, p_tupT, p_lstL, p_lstT, p_intB, p_intI, tyD, isD, view_eq, viewF_nil, viewF_cons, vw_none, vw_val, vw_own0, isOwn, appL, viewA_nil, viewA_cons, vA_some, vA_none, after_nil, bindS, bindTg, Option.bind_some, List.map_cons, List.map_nil, List.cons_append, List.nil_append, List.set_cons_zero, List.set_cons_succ, List.getElem?_cons_zero, List.getElem?_cons_succ, List.length_cons, List.length_nil, List.isEmpty_nil, List.isEmpty_cons, ↓reduceIte, outR_nx, outR_ret, outR_err, Bool.not_true, Bool.not_false, Bool.false_and, Bool.true_and, Bool.and_true, Bool.and_false, Bool.or_true, Bool.true_or, Bool.false_or, Bool.or_false, Bool.false_eq_true, decide_true, decide_false, at0, at1, at2, at3, nabs, nabs_neg, ncast, beq_self_eq_true, List.replicate_succ, List.replicate_zero, Nat.reduceLT, Nat.reduceLeDiff, Nat.reduceLT, Nat.reduceAdd, Int.reduceLT, Int.reduceLE, Int.reduceNeg, Int.reduceEq, Int.reduceBEq, Int.reduceSub, Int.reduceAdd, Int.reduceMul, Int.reduceToNat, Nat.reduceSub, Nat.reduceMul, Nat.reduceEqDiff, lg, reduceCtorEq, Option.map_some, Option.map_none, cmpT, wipeE, rwP, nm_lt (z p hp)]
theorem len4 : prD .len [.str "abcd"] = .ok (.int 4, false) := by rfl
theorem isBox (n : Nat) (bs : List (Nat × Int × Int)) (h : goodB bs) : call fs (n + 5) 11 [bxD bs] = .ok (.bl true, false) := by
  obtain ⟨h1, h2, h3⟩ := h
  have c : ¬ (4 : Int) < (bs.length : Int) := by omega
  have c2 : ((Str.ofString "abcd").length : Int) = 4 := by decide +kernel
  have c3 : (Str.ofString "abcd").length ≤ szl := by decide +kernel
  rw [cs11, runF_eq rfl]
  simp only [ev_var, ev_cst, ev_tup, ev_lst, ev_bin, ev_neg, ev_cmp, ev_chain, ev_isc, ev_and, ev_or, ev_not, ev_ifx, ev_ix, ev_slA, ev_slB, ev_slC, ev_call, ev_callv, ev_prim, ev_rng, ev_srs, ev_srl, ev_dnew, ev_rev, ev_comp, ev_compf, ev_comp2, evs_nil, evs_cons, sr_seq, sr_rg1, sr_rg2, sr_zip, sr_enum, ex_set, ex_unp, ex_par2, ex_par3, ex_drop, ex_app, ex_ext, ex_rem, ex_put, ex_ret, ex_retV, ex_retN, ex_pass, ex_ife, ex_forr, ex_whl, ex_raise, ex_try, exs_nil, exs_cons, andK_t, andK_f, orK_t, orK_f, ixK_t, ixK_f, chK_t, chK_f, cvK_fn, ifK_t, ifK_f, forK_n, varK_s, rvK_s, unpK_s, ownK_t, lenK_t, seqK_l, seqK_t, seqK_s, zipK_l, zipK_t, enuK_l, enuK_t, negK_i, iscK_t, iscK_f, tryO_nx, tryO_ret, bd_ok, bd_err, bd_bad, on_ok, on_err, on_bad, th_nx, th_ret, th_err, th_bad, boolR_ok, boolR_err, intR_ok, intR_err, noErr_ok, okIf_true, b_addI, b_subI, b_mulI, b_fdI, b_mdI, b_pwI, b_shI, c_lt, c_le, c_gt, c_ge, c_scr, c_eqI, c_neI, c_neB, c_eqB, x_lst, x_tup, x_dcs, c_inS, c_niS, c_ltS, p_dictL, p_dictT, p_lenL, p_lenT, p_lenS, p_minI, p_maxI, p_isi, p_tupL, p_tupT, p_lstL, p_lstT, p_intB, p_intI, tyD, isD, view_eq, viewF_nil, viewF_cons, vw_none, vw_val, vw_own0, isOwn, appL, viewA_nil, viewA_cons, vA_some, vA_none, after_nil, bindS, bindTg, Option.bind_some, List.map_cons, List.map_nil, List.cons_append, List.nil_append, List.set_cons_zero, List.set_cons_succ, List.getElem?_cons_zero, List.getElem?_cons_succ, List.length_cons, List.length_nil, List.isEmpty_nil, List.isEmpty_cons, ↓reduceIte, outR_nx, outR_ret, outR_err, Bool.not_true, Bool.not_false, Bool.false_and, Bool.true_and, Bool.and_true, Bool.and_false, Bool.or_true, Bool.true_or, Bool.false_or, Bool.or_false, Bool.false_eq_true, decide_true, decide_false, at0, at1, at2, at3, nabs, nabs_neg, ncast, beq_self_eq_true, List.replicate_succ, List.replicate_zero, Nat.reduceLT, Nat.reduceLeDiff, Nat.reduceLT, Nat.reduceAdd, Int.reduceLT, Int.reduceLE, Int.reduceNeg, Int.reduceEq, Int.reduceBEq, Int.reduceSub, Int.reduceAdd, Int.reduceMul, Int.reduceToNat, Nat.reduceSub, Nat.reduceMul, Nat.reduceEqDiff, lg, reduceCtorEq, Option.map_some, Option.map_none, f11, List.length_map, p_lenZ, c2, c3, c]
  rw [cmpK_mp (g := fun _ => .bl true) fun r hr => ?_]
  · simp only [ev_var, ev_cst, ev_tup, ev_lst, ev_bin, ev_neg, ev_cmp, ev_chain, ev_isc, ev_and, ev_or, ev_not, ev_ifx, ev_ix, ev_slA, ev_slB, ev_slC, ev_call, ev_callv, ev_prim, ev_rng, ev_srs, ev_srl, ev_dnew, ev_rev, ev_comp, ev_compf, ev_comp2, evs_nil, evs_cons, sr_seq, sr_rg1, sr_rg2, sr_zip, sr_enum, ex_set, ex_unp, ex_par2, ex_par3, ex_drop, ex_app, ex_ext, ex_rem, ex_put, ex_ret, ex_retV, ex_retN, ex_pass, ex_ife, ex_forr, ex_whl, ex_raise, ex_try, exs_nil, exs_cons, andK_t, andK_f, orK_t, orK_f, ixK_t, ixK_f, chK_t, chK_f, cvK_fn, ifK_t, ifK_f, forK_n, varK_s, rvK_s, unpK_s, ownK_t, lenK_t, seqK_l, seqK_t, seqK_s, zipK_l, zipK_t, enuK_l, enuK_t, negK_i, iscK_t, iscK_f, tryO_nx, tryO_ret, bd_ok, bd_err, bd_bad, on_ok, on_err, on_bad, th_nx, th_ret, th_err, th_bad, boolR_ok, boolR_err, intR_ok, intR_err, noErr_ok, okIf_true, b_addI, b_subI, b_mulI, b_fdI, b_mdI, b_pwI, b_shI, c_lt, c_le, c_gt, c_ge, c_scr, c_eqI, c_neI, c_neB, c_eqB, x_lst, x_tup, x_dcs, c_inS, c_niS, c_ltS, p_dictL, p_dictT, p_lenL, p_lenT, p_lenS, p_minI, p_maxI, p_isi, p_tupL, p_tupT, p_lstL, p_lstT, p_intB, p_intI, tyD, isD, view_eq, viewF_nil, viewF_cons, vw_none, vw_val, vw_own0, isOwn, appL, viewA_nil, viewA_cons, vA_some, vA_none, after_nil, bindS, bindTg, Option.bind_some, List.map_cons, List.map_nil, List.cons_append, List.nil_append, List.set_cons_zero, List.set_cons_succ, List.getElem?_cons_zero, List.getElem?_cons_succ, List.length_cons, List.length_nil, List.isEmpty_nil, List.isEmpty_cons, ↓reduceIte, outR_nx, outR_ret, outR_err, Bool.not_true, Bool.not_false, Bool.false_and, Bool.true_and, Bool.and_true, Bool.and_false, Bool.or_true, Bool.true_or, Bool.false_or, Bool.or_false, Bool.false_eq_true, decide_true, decide_false, at0, at1, at2, at3, nabs, nabs_neg, ncast, beq_self_eq_true, List.replicate_succ, List.replicate_zero, Nat.reduceLT, Nat.reduceLeDiff, Nat.reduceLT, Nat.reduceAdd, Int.reduceLT, Int.reduceLE, Int.reduceNeg, Int.reduceEq, Int.reduceBEq, Int.reduceSub, Int.reduceAdd, Int.reduceMul, Int.reduceToNat, Nat.reduceSub, Nat.reduceMul, Nat.reduceEqDiff, lg, reduceCtorEq, Option.map_some, Option.map_none, p_allM, all_true, risesB (n + 3) bs h3]
  · simp only [ev_var, ev_cst, ev_tup, ev_lst, ev_bin, ev_neg, ev_cmp, ev_chain, ev_isc, ev_and, ev_or, ev_not, ev_ifx, ev_ix, ev_slA, ev_slB, ev_slC, ev_call, ev_callv, ev_prim, ev_rng, ev_srs, ev_srl, ev_dnew, ev_rev, ev_comp, ev_compf, ev_comp2, evs_nil, evs_cons, sr_seq, sr_rg1, sr_rg2, sr_zip, sr_enum, ex_set, ex_unp, ex_par2, ex_par3, ex_drop, ex_app, ex_ext, ex_rem, ex_put, ex_ret, ex_retV, ex_retN, ex_pass, ex_ife, ex_forr, ex_whl, ex_raise, ex_try, exs_nil, exs_cons, andK_t, andK_f, orK_t, orK_f, ixK_t, ixK_f, chK_t, chK_f, cvK_fn, ifK_t, ifK_f, forK_n, varK_s, rvK_s, unpK_s, ownK_t, lenK_t, seqK_l, seqK_t, seqK_s, zipK_l, zipK_t, enuK_l, enuK_t, negK_i, iscK_t, iscK_f, tryO_nx, tryO_ret, bd_ok, bd_err, bd_bad, on_ok, on_err, on_bad, th_nx, th_ret, th_err, th_bad, boolR_ok, boolR_err, intR_ok, intR_err, noErr_ok, okIf_true, b_addI, b_subI, b_mulI, b_fdI, b_mdI, b_pwI, b_shI, c_lt, c_le, c_gt, c_ge, c_scr, c_eqI, c_neI, c_neB, c_eqB, x_lst, x_tup, x_dcs, c_inS, c_niS, c_ltS, p_dictL, p_dictT, p_lenL, p_lenT, p_lenS, p_minI, p_maxI, p_isi, p_tupL, p_tupT, p_lstL, p_lstT, p_intB, p_intI, tyD, isD, view_eq, viewF_nil, viewF_cons, vw_none, vw_val, vw_own0, isOwn, appL, viewA_nil, viewA_cons, vA_some, vA_none, after_nil, bindS, bindTg, Option.bind_some, List.map_cons, List.map_nil, List.cons_append, List.nil_append, List.set_cons_zero, List.set_cons_succ, List.getElem?_cons_zero, List.getElem?_cons_succ, List.length_cons, List.length_nil, List.isEmpty_nil, List.isEmpty_cons, ↓reduceIte, outR_nx, outR_ret, outR_err, Bool.not_true, Bool.not_false, Bool.false_and, Bool.true_and, Bool.and_true, Bool.and_false, Bool.or_true, Bool.true_or, Bool.false_or, Bool.or_false, Bool.false_eq_true, decide_true, decide_false, at0, at1, at2, at3, nabs, nabs_neg, ncast, beq_self_eq_true, List.replicate_succ, List.replicate_zero, Nat.reduceLT, Nat.reduceLeDiff, Nat.reduceLT, Nat.reduceAdd, Int.reduceLT, Int.reduceLE, Int.reduceNeg, Int.reduceEq, Int.reduceBEq, Int.reduceSub, Int.reduceAdd, Int.reduceMul, Int.reduceToNat, Nat.reduceSub, Nat.reduceMul, Nat.reduceEqDiff, lg, reduceCtorEq, Option.map_some, Option.map_none, cmpT, wipeE, boxRow n r (h2 r hr)]
/-! the names are known -/
theorem inD_nm : ∀ (ks : List Nat) (i : Nat), inD (.str (nmS i)) (ks.map fun k => D.str (nmS k)) = decide (i ∈ ks)
  | [], _ => rfl
  | k :: ks, i => by
    show (eqD (.str (nmS k)) (.str (nmS i)) || inD (.str (nmS i)) (ks.map fun k => D.str (nmS k))) = _
    rw [eqS, inD_nm ks i]
    have e : (nmS k == nmS i) = decide (i = k) := by
      by_cases c : i = k
      · subst c; simp
      · rw [decide_eq_false c]
        refine beq_eq_false_iff_ne.mpr fun z => c ?_
        have := congrArg (fun x : Str => x.cps.toList) z
        have : [97 + k] = [97 + i] := this
        simp only [List.cons.injEq, and_true] at this
        omega
    rw [e]
    by_cases c : i = k
    · simp [c]
    · simp [c]
theorem dats_nm (n : Nat) : ∀ ks : List Nat, (∀ k ∈ ks, k < 4) → dats n (ks.map fun k => D.str (nmS k)) = true
  | [], _ => by simp [dats]
  | k :: ks, h => by
    rw [List.map_cons, dats, dS, nmOk (h k List.mem_cons_self), dats_nm n ks fun j hj => h j (List.mem_cons_of_mem _ hj)]
    rfl
theorem fitsG (n : Nat) (x : X) (rows : List D) (ks : List Nat) (hk : ∀ k ∈ ks, k < 4) (hl : lv x ≤ 6) (hx : ∀ i ∈ nmX x, i ∈ ks)
    (hr : cmpK (call fs (n + 7)) (.ix (.var 3) (.cst (.int 0))) (.nm 3) [3] [some (xD x), some (.tup rows), none, none, none] rows = .ok (.lst (ks.map fun k => D.str (nmS k)), true)) : call fs (n + 8) 12 [xD x, .tup rows] = .ok (.bl true, false) := by
  have q := namesIn x (n + 7) (by omega) (by omega)
  have c : (nsS x).length ≤ szl := by
    have := nmX_le x
    rw [nsS_len]; unfold szl; omega
  rw [show n + 8 = n + 7 + 1 from rfl, cs12, runF_eq rfl]
  simp only [ev_var, ev_cst, ev_tup, ev_lst, ev_bin, ev_neg, ev_cmp, ev_chain, ev_isc, ev_and, ev_or, ev_not, ev_ifx, ev_ix, ev_slA, ev_slB, ev_slC, ev_call, ev_callv, ev_prim, ev_rng, ev_srs, ev_srl, ev_dnew, ev_rev, ev_comp, ev_compf, ev_comp2, evs_nil, evs_cons, sr_seq, sr_rg1, sr_rg2, sr_zip, sr_enum, ex_set, ex_unp, ex_par2, ex_par3, ex_drop, ex_app, ex_ext, ex_rem, ex_put, ex_ret, ex_retV, ex_retN, ex_pass, ex_ife, ex_forr, ex_whl, ex_raise, ex_try, exs_nil, exs_cons, andK_t, andK_f, orK_t, orK_f, ixK_t, ixK_f, chK_t, chK_f, cvK_fn, ifK_t, ifK_f, forK_n, varK_s, rvK_s, unpK_s, ownK_t, lenK_t, seqK_l, seqK_t, seqK_s, zipK_l, zipK_t, enuK_l, enuK_t, negK_i, iscK_t, iscK_f, tryO_nx, tryO_ret, bd_ok, bd_err, bd_bad, on_ok, on_err, on_bad, th_nx, th_ret, th_err, th_bad, boolR_ok, boolR_err, intR_ok, intR_err, noErr_ok, okIf_true, b_addI, b_subI, b_mulI, b_fdI, b_mdI, b_pwI, b_shI, c_lt, c_le, c_gt, c_ge, c_scr, c_eqI, c_neI, c_neB, c_eqB, x_lst, x_tup, x_dcs, c_inS, c_niS, c_ltS, p_dictL, p_dictT, p_lenL, p_lenT, p_lenS, p_minI, p_maxI, p_isi, p_tupL, p_tupT, p_lstL, p_lstT, p_intB, p_intI, tyD, isD, view_eq, viewF_nil, viewF_cons, vw_none, vw_val, vw_own0, isOwn, appL, viewA_nil, viewA_cons, vA_some, vA_none, after_nil, bindS, bindTg, Option.bind_some, List.map_cons, List.map_nil, List.cons_append, List.nil_append, List.set_cons_zero, List.set_cons_succ, List.getElem?_cons_zero, List.getElem?_cons_succ, List.length_cons, List.length_nil, List.isEmpty_nil, List.isEmpty_cons, ↓reduceIte, outR_nx, outR_ret, outR_err, Bool.not_true, Bool.not_false, Bool.false_and, Bool.true_and, Bool.and_true, Bool.and_false, Bool.or_true, Bool.true_or, Bool.false_or, Bool.or_false, Bool.false_eq_true, decide_true, decide_false, at0, at1, at2, at3, nabs, nabs_neg, ncast, beq_self_eq_true, List.replicate_succ, List.replicate_zero, Nat.reduceLT, Nat.reduceLeDiff, Nat.reduceLT, Nat.reduceAdd, Int.reduceLT, Int.reduceLE, Int.reduceNeg, Int.reduceEq, Int.reduceBEq, Int.reduceSub, Int.reduceAdd, Int.reduceMul, Int.reduceToNat, Nat.reduceSub, Nat.reduceMul, Nat.reduceEqDiff, lg, reduceCtorEq, Option.map_some, Option.map_none, f12]
  rw [hr]
  simp only [ev_var, ev_cst, ev_tup, ev_lst, ev_bin, ev_neg, ev_cmp, ev_chain, ev_isc, ev_and, ev_or, ev_not, ev_ifx, ev_ix, ev_slA, ev_slB, ev_slC, ev_call, ev_callv, ev_prim, ev_rng, ev_srs, ev_srl, ev_dnew, ev_rev, ev_comp, ev_compf, ev_comp2, evs_nil, evs_cons, sr_seq, sr_rg1, sr_rg2, sr_zip, sr_enum, ex_set, ex_unp, ex_par2, ex_par3, ex_drop, ex_app, ex_ext, ex_rem, ex_put, ex_ret, ex_retV, ex_retN, ex_pass, ex_ife, ex_forr, ex_whl, ex_raise, ex_try, exs_nil, exs_cons, andK_t, andK_f, orK_t, orK_f, ixK_t, ixK_f, chK_t, chK_f, cvK_fn, ifK_t, ifK_f, forK_n, varK_s, rvK_s, unpK_s, ownK_t, lenK_t, seqK_l, seqK_t, seqK_s, zipK_l, zipK_t, enuK_l, enuK_t, negK_i, iscK_t, iscK_f, tryO_nx, tryO_ret, bd_ok, bd_err, bd_bad, on_ok, on_err, on_bad, th_nx, th_ret, th_err, th_bad, boolR_ok, boolR_err, intR_ok, intR_err, noErr_ok, okIf_true, b_addI, b_subI, b_mulI, b_fdI, b_mdI, b_pwI, b_shI, c_lt, c_le, c_gt, c_ge, c_scr, c_eqI, c_neI, c_neB, c_eqB, x_lst, x_tup, x_dcs, c_inS, c_niS, c_ltS, p_dictL, p_dictT, p_lenL, p_lenT, p_lenS, p_minI, p_maxI, p_isi, p_tupL, p_tupT, p_lstL, p_lstT, p_intB, p_intI, tyD, isD, view_eq, viewF_nil, viewF_cons, vw_none, vw_val, vw_own0, isOwn, appL, viewA_nil, viewA_cons, vA_some, vA_none, after_nil, bindS, bindTg, Option.bind_some, List.map_cons, List.map_nil, List.cons_append, List.nil_append, List.set_cons_zero, List.set_cons_succ, List.getElem?_cons_zero, List.getElem?_cons_succ, List.length_cons, List.length_nil, List.isEmpty_nil, List.isEmpty_cons, ↓reduceIte, outR_nx, outR_ret, outR_err, Bool.not_true, Bool.not_false, Bool.false_and, Bool.true_and, Bool.and_true, Bool.and_false, Bool.or_true, Bool.true_or, Bool.false_or, Bool.or_false, Bool.false_eq_true, decide_true, decide_false, at0, at1, at2, at3, nabs, nabs_neg, ncast, beq_self_eq_true, List.replicate_succ, List.replicate_zero, Nat.reduceLT, Nat.reduceLeDiff, Nat.reduceLT, Nat.reduceAdd, Int.reduceLT, Int.reduceLE, Int.reduceNeg, Int.reduceEq, Int.reduceBEq, Int.reduceSub, Int.reduceAdd, Int.reduceMul, Int.reduceToNat, Nat.reduceSub, Nat.reduceMul, Nat.reduceEqDiff, lg, reduceCtorEq, Option.map_some, Option.map_none, q, c]
  rw [nsS_list, List.map_map, cmpK_mp (g := fun _ => .bl true) fun i hi => ?_]
  · simp only [ev_var, ev_cst, ev_tup, ev_lst, ev_bin, ev_neg, ev_cmp, ev_chain, ev_isc, ev_and, ev_or, ev_not, ev_ifx, ev_ix, ev_slA, ev_slB, ev_slC, ev_call, ev_callv, ev_prim, ev_rng, ev_srs, ev_srl, ev_dnew, ev_rev, ev_comp, ev_compf, ev_comp2, evs_nil, evs_cons, sr_seq, sr_rg1, sr_rg2, sr_zip, sr_enum, ex_set, ex_unp, ex_par2, ex_par3, ex_drop, ex_app, ex_ext, ex_rem, ex_put, ex_ret, ex_retV, ex_retN, ex_pass, ex_ife, ex_forr, ex_whl, ex_raise, ex_try, exs_nil, exs_cons, andK_t, andK_f, orK_t, orK_f, ixK_t, ixK_f, chK_t, chK_f, cvK_fn, ifK_t, ifK_f, forK_n, varK_s, rvK_s, unpK_s, ownK_t, lenK_t, seqK_l, seqK_t, seqK_s, zipK_l, zipK_t, enuK_l, enuK_t, negK_i, iscK_t, iscK_f, tryO_nx, tryO_ret, bd_ok, bd_err, bd_bad, on_ok, on_err, on_bad, th_nx, th_ret, th_err, th_bad, boolR_ok, boolR_err, intR_ok, intR_err, noErr_ok, okIf_true, b_addI, b_subI, b_mulI, b_fdI, b_mdI, b_pwI, b_shI, c_lt, c_le, c_gt, c_ge, c_scr, c_eqI, c_neI, c_neB, c_eqB, x_lst, x_tup, x_dcs, c_inS, c_niS, c_ltS, p_dictL, p_dictT, p_lenL, p_lenT, p_lenS, p_minI, p_maxI, p_isi, p_tupL, p_tupT, p_lstL, p_lstT, p_intB, p_intI, tyD, isD, view_eq, viewF_nil, viewF_cons, vw_none, vw_val, vw_own0, isOwn, appL, viewA_nil, viewA_cons, vA_some, vA_none, after_nil, bindS, bindTg, Option.bind_some, List.map_cons, List.map_nil, List.cons_append, List.nil_append, List.set_cons_zero, List.set_cons_succ, List.getElem?_cons_zero, List.getElem?_cons_succ, List.length_cons, List.length_nil, List.isEmpty_nil, List.isEmpty_cons, ↓reduceIte, outR_nx, outR_ret, outR_err, Bool.not_true, Bool.not_false, Bool.false_and, Bool.true_and, Bool.and_true, Bool.and_false, Bool.or_true, Bool.true_or, Bool.false_or, Bool.or_false, Bool.false_eq_true, decide_true, decide_false, at0, at1, at2, at3, nabs, nabs_neg, ncast, beq_self_eq_true, List.replicate_succ, List.replicate_zero, Nat.reduceLT, Nat.reduceLeDiff, Nat.reduceLT, Nat.reduceAdd, Int.reduceLT, Int.reduceLE, Int.reduceNeg, Int.reduceEq, Int.reduceBEq, Int.reduceSub, Int.reduceAdd, Int.reduceMul, Int.reduceToNat, Nat.reduceSub, Nat.reduceMul, Nat.reduceEqDiff, lg, reduceCtorEq, Option.map_some, Option.map_none, p_allM, all_true]
  · have e : cmpD .isin (((fun c => D.str ⟨#[c]⟩) ∘ fun x => 97 + x) i) (.lst (ks.map fun k => D.str (nmS k))) = .ok true := by
      show cmpD .isin (.str (nmS i)) _ = _
      rw [c_inL, dS, nmOk (hk i (hx i hi)), dats_nm 59 ks hk, inD_nm, decide_eq_true (hx i hi)]
      rfl
    simp only [ev_var, ev_cst, ev_tup, ev_lst, ev_bin, ev_neg, ev_cmp, ev_chain, ev_isc, ev_and, ev_or, ev_not, ev_ifx, ev_ix, ev_slA, ev_slB, ev_slC, ev_call, ev_callv, ev_prim, ev_rng, ev_srs, ev_srl, ev_dnew, ev_rev, ev_comp, ev_compf, ev_comp2, evs_nil, evs_cons, sr_seq, sr_rg1, sr_rg2, sr_zip, sr_enum, ex_set, ex_unp, ex_par2, ex_par3, ex_drop, ex_app, ex_ext, ex_rem, ex_put, ex_ret, ex_retV, ex_retN, ex_pass, ex_ife, ex_forr, ex_whl, ex_raise, ex_try, exs_nil, exs_cons, andK_t, andK_f, orK_t, orK_f, ixK_t, ixK_f, chK_t, chK_f, cvK_fn, ifK_t, ifK_f, forK_n, varK_s, rvK_s, unpK_s, ownK_t, lenK_t, seqK_l, seqK_t, seqK_s, zipK_l, zipK_t, enuK_l, enuK_t, negK_i, iscK_t, iscK_f, tryO_nx, tryO_ret, bd_ok, bd_err, bd_bad, on_ok, on_err, on_bad, th_nx, th_ret, th_err, th_bad, boolR_ok, boolR_err, intR_ok, intR_err, noErr_ok, okIf_true, b_addI, b_subI, b_mulI, b_fdI, b_mdI, b_pwI, b_shI, c_lt, c_le, c_gt, c_ge, c_scr, c_eqI, c_neI, c_neB, c_eqB, x_lst, x_tup, x_dcs, c_inS, c_niS, c_ltS, p_dictL, p_dictT, p_lenL, p_lenT, p_lenS, p_minI, p_maxI, p_isi, p_tupL, p_tupT, p_lstL, p_lstT, p_intB, p_intI, tyD, isD, view_eq, viewF_nil, viewF_cons, vw_none, vw_val, vw_own0, isOwn, appL, viewA_nil, viewA_cons, vA_some, vA_none, after_nil, bindS, bindTg, Option.bind_some, List.map_cons, List.map_nil, List.cons_append, List.nil_append, List.set_cons_zero, List.set_cons_succ, List.getElem?_cons_zero, List.getElem?_cons_succ, List.length_cons, List.length_nil, List.isEmpty_nil, List.isEmpty_cons, ↓reduceIte, outR_nx, outR_ret, outR_err, Bool.not_true, Bool.not_false, Bool.false_and, Bool.true_and, Bool.and_true, Bool.and_false, Bool.or_true, Bool.true_or, Bool.false_or, Bool.or_false, Bool.false_eq_true, decide_true, decide_false, at0, at1, at2, at3, nabs, nabs_neg, ncast, beq_self_eq_true, List.replicate_succ, List.replicate_zero, Nat.reduceLT, Nat.reduceLeDiff, Nat.reduceLT, Nat.reduceAdd, Int.reduceLT, Int.reduceLE, Int.reduceNeg, Int.reduceEq, Int.reduceBEq, Int.reduceSub, Int.reduceAdd, Int.reduceMul, Int.reduceToNat, Nat.reduceSub, Nat.reduceMul, Nat.reduceEqDiff, lg, reduceCtorEq, Option.map_some, Option.map_none, cmpT, wipeE, e]
theorem fitsB (n : Nat) (x : X) (bs : List (Nat × Int × Int)) (h : goodB bs) (hl : lv x ≤ 6) (hx : ∀ i ∈ nmX x, i ∈ bs.map (·.1)) : call fs (n + 8) 12 [xD x, bxD bs] = .ok (.bl true, false) := by
  refine fitsG n x _ (bs.map (·.1)) (fun k hk => ?_) hl hx ?_
  · obtain ⟨r, hr, rfl⟩ := List.mem_map.mp hk
    exact (h.2.1 r hr).1
  · rw [cmpK_mp (g := fun r => .str (nmS r.1)) fun r hr => ?_]
    · rw [List.map_map]; rfl
    · simp only [ev_var, ev_cst, ev_tup, ev_lst, ev_bin, ev_neg, ev_cmp, ev_chain, ev_isc, ev_and, ev_or, ev_not, ev_ifx, ev_ix, ev_slA, ev_slB, ev_slC, ev_call, ev_callv, ev_prim, ev_rng, ev_srs, ev_srl, ev_dnew, ev_rev, ev_comp, ev_compf, ev_comp2, evs_nil, evs_cons, sr_seq, sr_rg1, sr_rg2, sr_zip, sr_enum, ex_set, ex_unp, ex_par2, ex_par3, ex_drop, ex_app, ex_ext, ex_rem, ex_put, ex_ret, ex_retV, ex_retN, ex_pass, ex_ife, ex_forr, ex_whl, ex_raise, ex_try, exs_nil, exs_cons, andK_t, andK_f, orK_t, orK_f, ixK_t, ixK_f, chK_t, chK_f, cvK_fn, ifK_t, ifK_f, forK_n, varK_s, rvK_s, unpK_s, ownK_t, lenK_t, seqK_l, seqK_t, seqK_s, zipK_l, zipK_t, enuK_l, enuK_t, negK_i, iscK_t, iscK_f, tryO_nx, tryO_ret, bd_ok, bd_err, bd_bad, on_ok, on_err, on_bad, th_nx, th_ret, th_err, th_bad, boolR_ok, boolR_err, intR_ok, intR_err, noErr_ok, okIf_true, b_addI, b_subI, b_mulI, b_fdI, b_mdI, b_pwI, b_shI, c_lt, c_le, c_gt, c_ge, c_scr, c_eqI, c_neI, c_neB, c_eqB, x_lst, x_tup, x_dcs, c_inS, c_niS, c_ltS, p_dictL, p_dictT, p_lenL, p_lenT, p_lenS, p_minI, p_maxI, p_isi, p_tupL, p_tupT, p_lstL, p_lstT, p_intB, p_intI, tyD, isD, view_eq, viewF_nil, viewF_cons, vw_none, vw_val, vw_own0, isOwn, appL, viewA_nil, viewA_cons, vA_some, vA_none, after_nil, bindS, bindTg, Option.bind_some, List.map_cons, List.map_nil, List.cons_append, List.nil_append, List.set_cons_zero, List.set_cons_succ, List.getElem?_cons_zero, List.getElem?_cons_succ, List.length_cons, List.length_nil, List.isEmpty_nil, List.isEmpty_cons, ↓reduceIte, outR_nx, outR_ret, outR_err, Bool.not_true, Bool.not_false, Bool.false_and, Bool.true_and, Bool.and_true, Bool.and_false, Bool.or_true, Bool.true_or, Bool.false_or, Bool.or_false, Bool.false_eq_true, decide_true, decide_false, at0, at1, at2, at3, nabs, nabs_neg, ncast, beq_self_eq_true, List.replicate_succ, List.replicate_zero, Nat.reduceLT, Nat.reduceLeDiff, Nat.reduceLT, Nat.reduceAdd, Int.reduceLT, Int.reduceLE, Int.reduceNeg, Int.reduceEq, Int.reduceBEq, Int.reduceSub, Int.reduceAdd, Int.reduceMul, Int.reduceToNat, Nat.reduceSub, Nat.reduceMul, Nat.reduceEqDiff, lg, reduceCtorEq, Option.map_some, Option.map_none, cmpT, wipeE, rwB]
theorem fitsP (n : Nat) (x : X) (ps : List (Nat × Int)) (h : goodP ps) (hl : lv x ≤ 6) (hx : ∀ i ∈ nmX x, i ∈ ps.map (·.1)) : call fs (n + 8) 12 [xD x, ptD ps] = .ok (.bl true, false) := by
  refine fitsG n x _ (ps.map (·.1)) (fun k hk => ?_) hl hx ?_
  · obtain ⟨r, hr, rfl⟩ := List.mem_map.mp hk
    exact (h.1 r hr).1
  · rw [cmpK_mp (g := fun r => .str (nmS r.1)) fun r hr => ?_]
    · rw [List.map_map]; rfl
    · simp only [ev_var, ev_cst, ev_tup, ev_lst, ev_bin, ev_neg, ev_cmp, ev_chain, ev_isc, ev_and, ev_or, ev_not, ev_ifx, ev_ix, ev_slA, ev_slB, ev_slC, ev_call, ev_callv, ev_prim, ev_rng, ev_srs, ev_srl, ev_dnew, ev_rev, ev_comp, ev_compf, ev_comp2, evs_nil, evs_cons, sr_seq, sr_rg1, sr_rg2, sr_zip, sr_enum, ex_set, ex_unp, ex_par2, ex_par3, ex_drop, ex_app, ex_ext, ex_rem, ex_put, ex_ret, ex_retV, ex_retN, ex_pass, ex_ife, ex_forr, ex_whl, ex_raise, ex_try, exs_nil, exs_cons, andK_t, andK_f, orK_t, orK_f, ixK_t, ixK_f, chK_t, chK_f, cvK_fn, ifK_t, ifK_f, forK_n, varK_s, rvK_s, unpK_s, ownK_t, lenK_t, seqK_l, seqK_t, seqK_s, zipK_l, zipK_t, enuK_l, enuK_t, negK_i, iscK_t, iscK_f, tryO_nx, tryO_ret, bd_ok, bd_err, bd_bad, on_ok, on_err, on_bad, th_nx, th_ret, th_err, th_bad, boolR_ok, boolR_err, intR_ok, intR_err, noErr_ok, okIf_true, b_addI, b_subI, b_mulI, b_fdI, b_mdI, b_pwI, b_shI, c_lt, c_le, c_gt, c_ge, c_scr, c_eqI, c_neI, c_neB, c_eqB, x_lst, x_tup, x_dcs, c_inS, c_niS, c_ltS, p_dictL, p_dictT, p_lenL, p_lenT, p_lenS, p_minI, p_maxI, p_isi, p_tupL, p_tupT, p_lstL, p_lstT, p_intB, p_intI, tyD, isD, view_eq, viewF_nil, viewF_cons, vw_none, vw_val, vw_own0, isOwn, appL, viewA_nil, viewA_cons, vA_some, vA_none, after_nil, bindS, bindTg, Option.bind_some, List.map_cons, List.map_nil, List.cons_append, List.nil_append, List.set_cons_zero, List.set_cons_succ, List.getElem?_cons_zero, List.getElem?_cons_succ, List.length_cons, List.length_nil, List.isEmpty_nil, List.isEmpty_cons, ↓reduceIte, outR_nx, outR_ret, outR_err, Bool.not_true, Bool.not_false, Bool.false_and, Bool.true_and, Bool.and_true, Bool.and_false, Bool.or_true, Bool.true_or, Bool.false_or, Bool.or_false, Bool.false_eq_true, decide_true, decide_false, at0, at1, at2, at3, nabs, nabs_neg, ncast, beq_self_eq_true, List.replicate_succ, List.replicate_zero, Nat.reduceLT, Nat.reduceLeDiff, Nat.reduceLT, Nat.reduceAdd, Int.reduceLT, Int.reduceLE, Int.reduceNeg, Int.reduceEq, Int.reduceBEq, Int.reduceSub, Int.reduceAdd, Int.reduceMul, Int.reduceToNat, Nat.reduceSub, Nat.reduceMul, Nat.reduceEqDiff, lg, reduceCtorEq, Option.map_some, Option.map_none, cmpT, wipeE, rwP]
theorem chkB (n : Nat) (x : X) (bs : List (Nat × Int × Int)) (h : goodB bs) (hl : lv x ≤ 6) (hx : ∀ i ∈ nmX x, i ∈ bs.map (·.1)) : call fs (n + 9) 13 [xD x, bxD bs] = .ok (.non, false) := by
  rw [show n + 9 = n + 8 + 1 from rfl, cs13, runF_eq rfl]
  simp only [ev_var, ev_cst, ev_tup, ev_lst, ev_bin, ev_neg, ev_cmp, ev_chain, ev_isc, ev_and, ev_or, ev_not, ev_ifx, ev_ix, ev_slA, ev_slB, ev_slC, ev_call, ev_callv, ev_prim, ev_rng, ev_srs, ev_srl, ev_dnew, ev_rev, ev_comp, ev_compf, ev_comp2, evs_nil, evs_cons, sr_seq, sr_rg1, sr_rg2, sr_zip, sr_enum, ex_set, ex_unp, ex_par2, ex_par3, ex_drop, ex_app, ex_ext, ex_rem, ex_put, ex_ret, ex_retV, ex_retN, ex_pass, ex_ife, ex_forr, ex_whl, ex_raise, ex_try, exs_nil, exs_cons, andK_t, andK_f, orK_t, orK_f, ixK_t, ixK_f, chK_t, chK_f, cvK_fn, ifK_t, ifK_f, forK_n, varK_s, rvK_s, unpK_s, ownK_t, lenK_t, seqK_l, seqK_t, seqK_s, zipK_l, zipK_t, enuK_l, enuK_t, negK_i, iscK_t, iscK_f, tryO_nx, tryO_ret, bd_ok, bd_err, bd_bad, on_ok, on_err, on_bad, th_nx, th_ret, th_err, th_bad, boolR_ok, boolR_err, intR_ok, intR_err, noErr_ok, okIf_true, b_addI, b_subI, b_mulI, b_fdI, b_mdI, b_pwI, b_shI, c_lt, c_le, c_gt, c_ge, c_scr, c_eqI, c_neI, c_neB, c_eqB, x_lst, x_tup, x_dcs, c_inS, c_niS, c_ltS, p_dictL, p_dictT, p_lenL, p_lenT, p_lenS, p_minI, p_maxI, p_isi, p_tupL, p_tupT, p_lstL, p_lstT, p_intB, p_intI, tyD, isD, view_eq, viewF_nil, viewF_cons, vw_none, vw_val, vw_own0, isOwn, appL, viewA_nil, viewA_cons, vA_some, vA_none, after_nil, bindS, bindTg, Option.bind_some, List.map_cons, List.map_nil, List.cons_append, List.nil_append, List.set_cons_zero, List.set_cons_succ, List.getElem?_cons_zero, List.getElem?_cons_succ, List.length_cons, List.length_nil, List.isEmpty_nil, List.isEmpty_cons, ↓reduceIte, outR_nx, outR_ret, outR_err, Bool.not_true, Bool.not_false, Bool.false_and, Bool.true_and, Bool.and_true, Bool.and_false, Bool.or_true, Bool.true_or, Bool.false_or, Bool.or_false, Bool.false_eq_true, decide_true, decide_false, at0, at1, at2, at3, nabs, nabs_neg, ncast, beq_self_eq_true, List.replicate_succ, List.replicate_zero, Nat.reduceLT, Nat.reduceLeDiff, Nat.reduceLT, Nat.reduceAdd, Int.reduceLT, Int.reduceLE, Int.reduceNeg, Int.reduceEq, Int.reduceBEq, Int.reduceSub, Int.reduceAdd, Int.reduceMul, Int.reduceToNat, Nat.reduceSub, Nat.reduceMul, Nat.reduceEqDiff, lg, reduceCtorEq, Option.map_some, Option.map_none, f13, isBox (n + 3) bs h, fitsB n x bs h hl hx]

/-! values, rough ranges -/
def opI : Op → Int → Int → Int | .add, a, b => a + b | .sub, a, b => a - b | .mul, a, b => a * b
def val (k : Nat → Int) : X → Int | .c z => z | .v i => k i | .b o l r => opI o (val k l) (val k r)
def prodR (p q : Int × Int) : Int × Int := (minL (p.1 * q.1) [p.1 * q.2, p.2 * q.1, p.2 * q.2], maxL (p.1 * q.1) [p.1 * q.2, p.2 * q.1, p.2 * q.2])
def opR : Op → Int × Int → Int × Int → Int × Int | .add, p, q => (p.1 + q.1, p.2 + q.2) | .sub, p, q => (p.1 - q.2, p.2 - q.1) | .mul, p, q => prodR p q
def rgX (k : Nat → Int × Int) : X → Int × Int | .c z => (z, z) | .v i => k i | .b o l r => opR o (rgX k l) (rgX k r)
theorem pow_lv (a b : Nat) (ha : 1 ≤ a) (hb : 1 ≤ b) : 10000 ^ a + 10000 ^ b ≤ (10000 : Nat) ^ (a + b) := by
  have h1 : (10000 : Nat) ≤ 10000 ^ a := by simpa using Nat.pow_le_pow_right (n := 10000) (by decide) ha
  have h2 : (10000 : Nat) ≤ 10000 ^ b := by simpa using Nat.pow_le_pow_right (n := 10000) (by decide) hb
  rw [Nat.pow_add]
  have h3 := Nat.mul_le_mul h1 (Nat.le_refl (10000 ^ b))
  have h4 := Nat.mul_le_mul (Nat.le_refl (10000 ^ a)) h2
  omega
theorem opI_bd {o : Op} {x y : Int} {a b : Nat} (ha : 1 ≤ a) (hb : 1 ≤ b) (h1 : x.natAbs ≤ 10000 ^ a) (h2 : y.natAbs ≤ 10000 ^ b) : (opI o x y).natAbs ≤ 10000 ^ (a + b) := by
  have p := pow_lv a b ha hb
  cases o with
  | add => show (x + y).natAbs ≤ _; omega
  | sub => show (x - y).natAbs ≤ _; omega
  | mul =>
    show (x * y).natAbs ≤ _
    rw [Int.natAbs_mul, Nat.pow_add]
    exact Nat.mul_le_mul h1 h2
theorem val_bd {k : Nat → Int} : ∀ {x : X}, okX x → (∀ i ∈ nmX x, -9999 ≤ k i ∧ k i ≤ 9999) → (val k x).natAbs ≤ 10000 ^ lv x
  | .c z, h, _ => by
    have := h.1
    have := h.2
    show z.natAbs ≤ 10000
    omega
  | .v i, _, hk => by
    have := hk i (by simp [nmX])
    show (k i).natAbs ≤ 10000
    omega
  | .b o l r, h, hk => opI_bd (lv_pos l) (lv_pos r) (val_bd h.1 fun i hi => hk i (List.mem_append_left _ hi)) (val_bd h.2 fun i hi => hk i (List.mem_append_right _ hi))
theorem small3 {a : Nat} {x : Int} (h : a ≤ 3) (hx : x.natAbs ≤ 10000 ^ a) : x.natAbs < 18446744073709551616 := by
  have : (10000 : Nat) ^ a ≤ 10000 ^ 3 := Nat.pow_le_pow_right (by decide) h
  have : (10000 : Nat) ^ 3 = 1000000000000 := by decide
  omega
theorem mulOk {a b : Nat} {x y : Int} (h : a + b ≤ 6) (hx : x.natAbs ≤ 10000 ^ a) (hy : y.natAbs ≤ 10000 ^ b) : binD .mul (.int x) (.int y) = .ok (.int (x * y), false) := by
  rw [b_mulI]
  have e : (decide (x.natAbs < 18446744073709551616) || decide (y.natAbs < 18446744073709551616)) = true := by
    by_cases c : a ≤ 3
    · rw [decide_eq_true (small3 c hx)]; rfl
    · rw [decide_eq_true (small3 (a := b) (by omega) hy), Bool.or_true]
  rw [e]
  rfl
section
variable {K : D} {k : Nat → Int}
theorem findV : ∀ (x : X) (n : Nat), okX x → lv x ≤ n → lv x ≤ 6 → (∀ i ∈ nmX x, -9999 ≤ k i ∧ k i ≤ 9999) → (∀ i ∈ nmX x, ixD K (.str (nmS i)) = .ok (.int (k i), false)) → call fs n 15 [xD x, K] = .ok (.int (val k x), false)
  | .c z, 0, _, hn, _, _, _ => by simp [lv] at hn
  | .v i, 0, _, hn, _, _, _ => by simp [lv] at hn
  | .b o l r, 0, _, hn, _, _, _ => by have := lv_pos l; simp only [lv] at hn; omega
  | .c z, n + 1, _, hn, _, _, _ => by
    rw [cs15, runF_eq rfl]
    simp only [ev_var, ev_cst, ev_tup, ev_lst, ev_bin, ev_neg, ev_cmp, ev_chain, ev_isc, ev_and, ev_or, ev_not, ev_ifx, ev_ix, ev_slA, ev_slB, ev_slC, ev_call, ev_callv, ev_prim, ev_rng, ev_srs, ev_srl, ev_dnew, ev_rev, ev_comp, ev_compf, ev_comp2, evs_nil, evs_cons, sr_seq, sr_rg1, sr_rg2, sr_zip, sr_enum, ex_set, ex_unp, ex_par2, ex_par3, ex_drop, ex_app, ex_ext, ex_rem, ex_put, ex_ret, ex_retV, ex_retN, ex_pass, ex_ife, ex_forr, ex_whl, ex_raise, ex_try, exs_nil, exs_cons, andK_t, andK_f, orK_t, orK_f, ixK_t, ixK_f, chK_t, chK_f, cvK_fn, ifK_t, ifK_f, forK_n, varK_s, rvK_s, unpK_s, ownK_t, lenK_t, seqK_l, seqK_t, seqK_s, zipK_l, zipK_t, enuK_l, enuK_t, negK_i, iscK_t, iscK_f, tryO_nx, tryO_ret, bd_ok, bd_err, bd_bad, on_ok, on_err, on_bad, th_nx, th_ret, th_err, th_bad, boolR_ok, boolR_err, intR_ok, intR_err, noErr_ok, okIf_true, b_addI, b_subI, b_mulI, b_fdI, b_mdI, b_pwI, b_shI, c_lt, c_le, c_gt, c_ge, c_scr, c_eqI, c_neI, c_neB, c_eqB, x_lst, x_tup, x_dcs, c_inS, c_niS, c_ltS, p_dictL, p_dictT, p_lenL, p_lenT, p_lenS, p_minI, p_maxI, p_isi, p_tupL, p_tupT, p_lstL, p_lstT, p_intB, p_intI, tyD, isD, view_eq, viewF_nil, viewF_cons, vw_none, vw_val, vw_own0, isOwn, appL, viewA_nil, viewA_cons, vA_some, vA_none, after_nil, bindS, bindTg, Option.bind_some, List.map_cons, List.map_nil, List.cons_append, List.nil_append, List.set_cons_zero, List.set_cons_succ, List.getElem?_cons_zero, List.getElem?_cons_succ, List.length_cons, List.length_nil, List.isEmpty_nil, List.isEmpty_cons, ↓reduceIte, outR_nx, outR_ret, outR_err, Bool.not_true, Bool.not_false, Bool.false_and, Bool.true_and, Bool.and_true, Bool.and_false, Bool.or_true, Bool.true_or, Bool.false_or, Bool.or_false, Bool.false_eq_true, decide_true, decide_false, at0, at1, at2, at3, nabs, nabs_neg, ncast, beq_self_eq_true, List.replicate_succ, List.replicate_zero, Nat.reduceLT, Nat.reduceLeDiff, Nat.reduceLT, Nat.reduceAdd, Int.reduceLT, Int.reduceLE, Int.reduceNeg, Int.reduceEq, Int.reduceBEq, Int.reduceSub, Int.reduceAdd, Int.reduceMul, Int.reduceToNat, Nat.reduceSub, Nat.reduceMul, Nat.reduceEqDiff, lg, reduceCtorEq, Option.map_some, Option.map_none, f15, xD, eqQ, okc, okv, kcc, kcv]
    rfl
  | .v i, n + 1, _, hn, _, _, hK => by
    have q := hK i (by simp [nmX])
    rw [cs15, runF_eq rfl]
    simp only [ev_var, ev_cst, ev_tup, ev_lst, ev_bin, ev_neg, ev_cmp, ev_chain, ev_isc, ev_and, ev_or, ev_not, ev_ifx, ev_ix, ev_slA, ev_slB, ev_slC, ev_call, ev_callv, ev_prim, ev_rng, ev_srs, ev_srl, ev_dnew, ev_rev, ev_comp, ev_compf, ev_comp2, evs_nil, evs_cons, sr_seq, sr_rg1, sr_rg2, sr_zip, sr_enum, ex_set, ex_unp, ex_par2, ex_par3, ex_drop, ex_app, ex_ext, ex_rem, ex_put, ex_ret, ex_retV, ex_retN, ex_pass, ex_ife, ex_forr, ex_whl, ex_raise, ex_try, exs_nil, exs_cons, andK_t, andK_f, orK_t, orK_f, ixK_t, ixK_f, chK_t, chK_f, cvK_fn, ifK_t, ifK_f, forK_n, varK_s, rvK_s, unpK_s, ownK_t, lenK_t, seqK_l, seqK_t, seqK_s, zipK_l, zipK_t, enuK_l, enuK_t, negK_i, iscK_t, iscK_f, tryO_nx, tryO_ret, bd_ok, bd_err, bd_bad, on_ok, on_err, on_bad, th_nx, th_ret, th_err, th_bad, boolR_ok, boolR_err, intR_ok, intR_err, noErr_ok, okIf_true, b_addI, b_subI, b_mulI, b_fdI, b_mdI, b_pwI, b_shI, c_lt, c_le, c_gt, c_ge, c_scr, c_eqI, c_neI, c_neB, c_eqB, x_lst, x_tup, x_dcs, c_inS, c_niS, c_ltS, p_dictL, p_dictT, p_lenL, p_lenT, p_lenS, p_minI, p_maxI, p_isi, p_tupL, p_tupT, p_lstL, p_lstT, p_intB, p_intI, tyD, isD, view_eq, viewF_nil, viewF_cons, vw_none, vw_val, vw_own0, isOwn, appL, viewA_nil, viewA_cons, vA_some, vA_none, after_nil, bindS, bindTg, Option.bind_some, List.map_cons, List.map_nil, List.cons_append, List.nil_append, List.set_cons_zero, List.set_cons_succ, List.getElem?_cons_zero, List.getElem?_cons_succ, List.length_cons, List.length_nil, List.isEmpty_nil, List.isEmpty_cons, ↓reduceIte, outR_nx, outR_ret, outR_err, Bool.not_true, Bool.not_false, Bool.false_and, Bool.true_and, Bool.and_true, Bool.and_false, Bool.or_true, Bool.true_or, Bool.false_or, Bool.or_false, Bool.false_eq_true, decide_true, decide_false, at0, at1, at2, at3, nabs, nabs_neg, ncast, beq_self_eq_true, List.replicate_succ, List.replicate_zero, Nat.reduceLT, Nat.reduceLeDiff, Nat.reduceLT, Nat.reduceAdd, Int.reduceLT, Int.reduceLE, Int.reduceNeg, Int.reduceEq, Int.reduceBEq, Int.reduceSub, Int.reduceAdd, Int.reduceMul, Int.reduceToNat, Nat.reduceSub, Nat.reduceMul, Nat.reduceEqDiff, lg, reduceCtorEq, Option.map_some, Option.map_none, f15, xD, eqQ, okc, okv, kvc, kvv, q]
    rfl
  | .b o l r, n + 1, ok, hn, h6, hk, hK => by
    have p1 := lv_pos l
    have p2 := lv_pos r
    simp only [lv] at hn h6
    have kl : ∀ i ∈ nmX l, -9999 ≤ k i ∧ k i ≤ 9999 := fun i hi => hk i (List.mem_append_left _ hi)
    have kr : ∀ i ∈ nmX r, -9999 ≤ k i ∧ k i ≤ 9999 := fun i hi => hk i (List.mem_append_right _ hi)
    have e1 := findV l n ok.1 (by omega) (by omega) kl fun i hi => hK i (List.mem_append_left _ hi)
    have e2 := findV r n ok.2 (by omega) (by omega) kr fun i hi => hK i (List.mem_append_right _ hi)
    have m := mulOk h6 (val_bd ok.1 kl) (val_bd ok.2 kr)
    rw [cs15, runF_eq rfl]
    cases o <;> simp only [ev_var, ev_cst, ev_tup, ev_lst, ev_bin, ev_neg, ev_cmp, ev_chain, ev_isc, ev_and, ev_or, ev_not, ev_ifx, ev_ix, ev_slA, ev_slB, ev_slC, ev_call, ev_callv, ev_prim, ev_rng, ev_srs, ev_srl, ev_dnew, ev_rev, ev_comp, ev_compf, ev_comp2, evs_nil, evs_cons, sr_seq, sr_rg1, sr_rg2, sr_zip, sr_enum, ex_set, ex_unp, ex_par2, ex_par3, ex_drop, ex_app, ex_ext, ex_rem, ex_put, ex_ret, ex_retV, ex_retN, ex_pass, ex_ife, ex_forr, ex_whl, ex_raise, ex_try, exs_nil, exs_cons, andK_t, andK_f, orK_t, orK_f, ixK_t, ixK_f, chK_t, chK_f, cvK_fn, ifK_t, ifK_f, forK_n, varK_s, rvK_s, unpK_s, ownK_t, lenK_t, seqK_l, seqK_t, seqK_s, zipK_l, zipK_t, enuK_l, enuK_t, negK_i, iscK_t, iscK_f, tryO_nx, tryO_ret, bd_ok, bd_err, bd_bad, on_ok, on_err, on_bad, th_nx, th_ret, th_err, th_bad, boolR_ok, boolR_err, intR_ok, intR_err, noErr_ok, okIf_true, b_addI, b_subI, b_mulI, b_fdI, b_mdI, b_pwI, b_shI, c_lt, c_le, c_gt, c_ge, c_scr, c_eqI, c_neI, c_neB, c_eqB, x_lst, x_tup, x_dcs, c_inS, c_niS, c_ltS, p_dictL, p_dictT, p_lenL, p_lenT, p_lenS, p_minI, p_maxI, p_isi, p_tupL, p_tupT, p_lstL, p_lstT, p_intB, p_intI, tyD, isD, view_eq, viewF_nil, viewF_cons, vw_none, vw_val, vw_own0, isOwn, appL, viewA_nil, viewA_cons, vA_some, vA_none, after_nil, bindS, bindTg, Option.bind_some, List.map_cons, List.map_nil, List.cons_append, List.nil_append, List.set_cons_zero, List.set_cons_succ, List.getElem?_cons_zero, List.getElem?_cons_succ, List.length_cons, List.length_nil, List.isEmpty_nil, List.isEmpty_cons, ↓reduceIte, outR_nx, outR_ret, outR_err, Bool.not_true, Bool.not_false, Bool.false_and, Bool.true_and, Bool.and_true, Bool.and_false, Bool.or_true, Bool.true_or, Bool.false_or, Bool.or_false, Bool.false_eq_true, decide_true, decide_false, at0, at1, at2, at3, nabs, nabs_neg, ncast, beq_self_eq_true, List.replicate_succ, List.replicate_zero, Nat.reduceLT, Nat.reduceLeDiff, Nat.reduceLT, Nat.reduceAdd, Int.reduceLT, Int.reduceLE, Int.reduceNeg, Int.reduceEq, Int.reduceBEq, Int.reduceSub, Int.reduceAdd, Int.reduceMul, Int.reduceToNat, Nat.reduceSub, Nat.reduceMul, Nat.reduceEqDiff, lg, reduceCtorEq, Option.map_some, Option.map_none, f15, xD, eqQ, oks, okc, okv, okp, okm, ksc, ksv, ksp, ksm, e1, e2, m] <;> rfl
theorem lawV : ∀ (x : X) (n : Nat), okX x → lv x ≤ n → lv x ≤ 6 → (∀ i ∈ nmX x, -9999 ≤ k i ∧ k i ≤ 9999) → (∀ i ∈ nmX x, ixD K (.str (nmS i)) = .ok (.int (k i), false)) → call fs n 24 [xD x, K] = .ok (.int (val k x), false)
  | .c z, 0, _, hn, _, _, _ => by simp [lv] at hn
  | .v i, 0, _, hn, _, _, _ => by simp [lv] at hn
  | .b o l r, 0, _, hn, _, _, _ => by have := lv_pos l; simp only [lv] at hn; omega
  | .c z, n + 1, _, hn, _, _, _ => by
    rw [cs24, runF_eq rfl]
    simp only [ev_var, ev_cst, ev_tup, ev_lst, ev_bin, ev_neg, ev_cmp, ev_chain, ev_isc, ev_and, ev_or, ev_not, ev_ifx, ev_ix, ev_slA, ev_slB, ev_slC, ev_call, ev_callv, ev_prim, ev_rng, ev_srs, ev_srl, ev_dnew, ev_rev, ev_comp, ev_compf, ev_comp2, evs_nil, evs_cons, sr_seq, sr_rg1, sr_rg2, sr_zip, sr_enum, ex_set, ex_unp, ex_par2, ex_par3, ex_drop, ex_app, ex_ext, ex_rem, ex_put, ex_ret, ex_retV, ex_retN, ex_pass, ex_ife, ex_forr, ex_whl, ex_raise, ex_try, exs_nil, exs_cons, andK_t, andK_f, orK_t, orK_f, ixK_t, ixK_f, chK_t, chK_f, cvK_fn, ifK_t, ifK_f, forK_n, varK_s, rvK_s, unpK_s, ownK_t, lenK_t, seqK_l, seqK_t, seqK_s, zipK_l, zipK_t, enuK_l, enuK_t, negK_i, iscK_t, iscK_f, tryO_nx, tryO_ret, bd_ok, bd_err, bd_bad, on_ok, on_err, on_bad, th_nx, th_ret, th_err, th_bad, boolR_ok, boolR_err, intR_ok, intR_err, noErr_ok, okIf_true, b_addI, b_subI, b_mulI, b_fdI, b_mdI, b_pwI, b_shI, c_lt, c_le, c_gt, c_ge, c_scr, c_eqI, c_neI, c_neB, c_eqB, x_lst, x_tup, x_dcs, c_inS, c_niS, c_ltS, p_dictL, p_dictT, p_lenL, p_lenT, p_lenS, p_minI, p_maxI, p_isi, p_tupL, p_tupT, p_lstL, p_lstT, p_intB, p_intI, tyD, isD, view_eq, viewF_nil, viewF_cons, vw_none, vw_val, vw_own0, isOwn, appL, viewA_nil, viewA_cons, vA_some, vA_none, after_nil, bindS, bindTg, Option.bind_some, List.map_cons, List.map_nil, List.cons_append, List.nil_append, List.set_cons_zero, List.set_cons_succ, List.getElem?_cons_zero, List.getElem?_cons_succ, List.length_cons, List.length_nil, List.isEmpty_nil, List.isEmpty_cons, ↓reduceIte, outR_nx, outR_ret, outR_err, Bool.not_true, Bool.not_false, Bool.false_and, Bool.true_and, Bool.and_true, Bool.and_false, Bool.or_true, Bool.true_or, Bool.false_or, Bool.or_false, Bool.false_eq_true, decide_true, decide_false, at0, at1, at2, at3, nabs, nabs_neg, ncast, beq_self_eq_true, List.replicate_succ, List.replicate_zero, Nat.reduceLT, Nat.reduceLeDiff, Nat.reduceLT, Nat.reduceAdd, Int.reduceLT, Int.reduceLE, Int.reduceNeg, Int.reduceEq, Int.reduceBEq, Int.reduceSub, Int.reduceAdd, Int.reduceMul, Int.reduceToNat, Nat.reduceSub, Nat.reduceMul, Nat.reduceEqDiff, lg, reduceCtorEq, Option.map_some, Option.map_none, f24, xD, eqQ, okc, okv, kcc, kcv]
    rfl
  | .v i, n + 1, _, hn, _, _, hK => by
    have q := hK i (by simp [nmX])
    rw [cs24, runF_eq rfl]
    simp only [ev_var, ev_cst, ev_tup, ev_lst, ev_bin, ev_neg, ev_cmp, ev_chain, ev_isc, ev_and, ev_or, ev_not, ev_ifx, ev_ix, ev_slA, ev_slB, ev_slC, ev_call, ev_callv, ev_prim, ev_rng, ev_srs, ev_srl, ev_dnew, ev_rev, ev_comp, ev_compf, ev_comp2, evs_nil, evs_cons, sr_seq, sr_rg1, sr_rg2, sr_zip, sr_enum, ex_set, ex_unp, ex_par2, ex_par3, ex_drop, ex_app, ex_ext, ex_rem, ex_put, ex_ret, ex_retV, ex_retN, ex_pass, ex_ife, ex_forr, ex_whl, ex_raise, ex_try, exs_nil, exs_cons, andK_t, andK_f, orK_t, orK_f, ixK_t, ixK_f, chK_t, chK_f, cvK_fn, ifK_t, ifK_f, forK_n, varK_s, rvK_s, unpK_s, ownK_t, lenK_t, seqK_l, seqK_t, seqK_s, zipK_l, zipK_t, enuK_l, enuK_t, negK_i, iscK_t, iscK_f, tryO_nx, tryO_ret, bd_ok, bd_err, bd_bad, on_ok, on_err, on_bad, th_nx, th_ret, th_err, th_bad, boolR_ok, boolR_err, intR_ok, intR_err, noErr_ok, okIf_true, b_addI, b_subI, b_mulI, b_fdI, b_mdI, b_pwI, b_shI, c_lt, c_le, c_gt, c_ge, c_scr, c_eqI, c_neI, c_neB, c_eqB, x_lst, x_tup, x_dcs, c_inS, c_niS, c_ltS, p_dictL, p_dictT, p_lenL, p_lenT, p_lenS, p_minI, p_maxI, p_isi, p_tupL, p_tupT, p_lstL, p_lstT, p_intB, p_intI, tyD, isD, view_eq, viewF_nil, viewF_cons, vw_none, vw_val, vw_own0, isOwn, appL, viewA_nil, viewA_cons, vA_some, vA_none, after_nil, bindS, bindTg, Option.bind_some, List.map_cons, List.map_nil, List.cons_append, List.nil_append, List.set_cons_zero, List.set_cons_succ, List.getElem?_cons_zero, List.getElem?_cons_succ, List.length_cons, List.length_nil, List.isEmpty_nil, List.isEmpty_cons, ↓reduceIte, outR_nx, outR_ret, outR_err, Bool.not_true, Bool.not_false, Bool.false_and, Bool.true_and, Bool.and_true, Bool.and_false, Bool.or_true, Bool.true_or, Bool.false_or, Bool.or_false, Bool.false_eq_true, decide_true, decide_false, at0, at1, at2, at3, nabs, nabs_neg, ncast, beq_self_eq_true, List.replicate_succ, List.replicate_zero, Nat.reduceLT, Nat.reduceLeDiff, Nat.reduceLT, Nat.reduceAdd, Int.reduceLT, Int.reduceLE, Int.reduceNeg, Int.reduceEq, Int.reduceBEq, Int.reduceSub, Int.reduceAdd, Int.reduceMul, Int.reduceToNat, Nat.reduceSub, Nat.reduceMul, Nat.reduceEqDiff, lg, reduceCtorEq, Option.map_some, Option.map_none, f24, xD, eqQ, okc, okv, kvc, kvv, q]
    rfl
  | .b o l r, n + 1, ok, hn, h6, hk, hK => by
    have p1 := lv_pos l
    have p2 := lv_pos r
    simp only [lv] at hn h6
    have kl : ∀ i ∈ nmX l, -9999 ≤ k i ∧ k i ≤ 9999 := fun i hi => hk i (List.mem_append_left _ hi)
    have kr : ∀ i ∈ nmX r, -9999 ≤ k i ∧ k i ≤ 9999 := fun i hi => hk i (List.mem_append_right _ hi)
    have e1 := lawV l n ok.1 (by omega) (by omega) kl fun i hi => hK i (List.mem_append_left _ hi)
    have e2 := lawV r n ok.2 (by omega) (by omega) kr fun i hi => hK i (List.mem_append_right _ hi)
    have m := mulOk h6 (val_bd ok.1 kl) (val_bd ok.2 kr)
    rw [cs24, runF_eq rfl]
    cases o <;> simp only [ev_var, ev_cst, ev_tup, ev_lst, ev_bin, ev_neg, ev_cmp, ev_chain, ev_isc, ev_and, ev_or, ev_not, ev_ifx, ev_ix, ev_slA, ev_slB, ev_slC, ev_call, ev_callv, ev_prim, ev_rng, ev_srs, ev_srl, ev_dnew, ev_rev, ev_comp, ev_compf, ev_comp2, evs_nil, evs_cons, sr_seq, sr_rg1, sr_rg2, sr_zip, sr_enum, ex_set, ex_unp, ex_par2, ex_par3, ex_drop, ex_app, ex_ext, ex_rem, ex_put, ex_ret, ex_retV, ex_retN, ex_pass, ex_ife, ex_forr, ex_whl, ex_raise, ex_try, exs_nil, exs_cons, andK_t, andK_f, orK_t, orK_f, ixK_t, ixK_f, chK_t, chK_f, cvK_fn, ifK_t, ifK_f, forK_n, varK_s, rvK_s, unpK_s, ownK_t, lenK_t, seqK_l, seqK_t, seqK_s, zipK_l, zipK_t, enuK_l, enuK_t, negK_i, iscK_t, iscK_f, tryO_nx, tryO_ret, bd_ok, bd_err, bd_bad, on_ok, on_err, on_bad, th_nx, th_ret, th_err, th_bad, boolR_ok, boolR_err, intR_ok, intR_err, noErr_ok, okIf_true, b_addI, b_subI, b_mulI, b_fdI, b_mdI, b_pwI, b_shI, c_lt, c_le, c_gt, c_ge, c_scr, c_eqI, c_neI, c_neB, c_eqB, x_lst, x_tup, x_dcs, c_inS, c_niS, c_ltS, p_dictL, p_dictT, p_lenL, p_lenT, p_lenS, p_minI, p_maxI, p_isi, p_tupL, p_tupT, p_lstL, p_lstT, p_intB, p_intI, tyD, isD, view_eq, viewF_nil, viewF_cons, vw_none, vw_val, vw_own0, isOwn, appL, viewA_nil, viewA_cons, vA_some, vA_none, after_nil, bindS, bindTg, Option.bind_some, List.map_cons, List.map_nil, List.cons_append, List.nil_append, List.set_cons_zero, List.set_cons_succ, List.getElem?_cons_zero, List.getElem?_cons_succ, List.length_cons, List.length_nil, List.isEmpty_nil, List.isEmpty_cons, ↓reduceIte, outR_nx, outR_ret, outR_err, Bool.not_true, Bool.not_false, Bool.false_and, Bool.true_and, Bool.and_true, Bool.and_false, Bool.or_true, Bool.true_or, Bool.false_or, Bool.or_false, Bool.false_eq_true, decide_true, decide_false, at0, at1, at2, at3, nabs, nabs_neg, ncast, beq_self_eq_true, List.replicate_succ, List.replicate_zero, Nat.reduceLT, Nat.reduceLeDiff, Nat.reduceLT, Nat.reduceAdd, Int.reduceLT, Int.reduceLE, Int.reduceNeg, Int.reduceEq, Int.reduceBEq, Int.reduceSub, Int.reduceAdd, Int.reduceMul, Int.reduceToNat, Nat.reduceSub, Nat.reduceMul, Nat.reduceEqDiff, lg, reduceCtorEq, Option.map_some, Option.map_none, f24, xD, eqQ, oks, okc, okv, okp, okm, ksc, ksv, ksp, ksm, e1, e2, m] <;> rfl
end
/-! ranges -/
def bdR (a : Nat) (p : Int × Int) : Prop := p.1 ≤ p.2 ∧ p.1.natAbs ≤ 10000 ^ a ∧ p.2.natAbs ≤ 10000 ^ a
theorem prodR_ends (p q : Int × Int) : (prodR p q).1 ∈ [p.1 * q.1, p.1 * q.2, p.2 * q.1, p.2 * q.2] ∧ (prodR p q).2 ∈ [p.1 * q.1, p.1 * q.2, p.2 * q.1, p.2 * q.2] ∧ ∀ x ∈ [p.1 * q.1, p.1 * q.2, p.2 * q.1, p.2 * q.2], (prodR p q).1 ≤ x ∧ x ≤ (prodR p q).2 := by
  obtain ⟨m1, m2, m3⟩ := minL_le (p.1 * q.1) [p.1 * q.2, p.2 * q.1, p.2 * q.2]
  obtain ⟨n1, n2, n3⟩ := maxL_ge (p.1 * q.1) [p.1 * q.2, p.2 * q.1, p.2 * q.2]
  unfold prodR
  refine ⟨?_, ?_, fun x hx => ?_⟩
  · rcases m3 with e | e
    · rw [e]; exact List.mem_cons_self
    · exact List.mem_cons_of_mem _ e
  · rcases n3 with e | e
    · rw [e]; exact List.mem_cons_self
    · exact List.mem_cons_of_mem _ e
  · rcases List.mem_cons.mp hx with e | e
    · subst e; exact ⟨m1, n1⟩
    · exact ⟨m2 x e, n2 x e⟩
theorem opR_bd {o : Op} {p q : Int × Int} {a b : Nat} (ha : 1 ≤ a) (hb : 1 ≤ b) (h1 : bdR a p) (h2 : bdR b q) : bdR (a + b) (opR o p q) := by
  obtain ⟨p0, p1, p2⟩ := h1
  obtain ⟨q0, q1, q2⟩ := h2
  cases o with
  | add => exact ⟨by show p.1 + q.1 ≤ p.2 + q.2; omega, opI_bd (o := .add) ha hb p1 q1, opI_bd (o := .add) ha hb p2 q2⟩
  | sub => exact ⟨by show p.1 - q.2 ≤ p.2 - q.1; omega, opI_bd (o := .sub) ha hb p1 q2, opI_bd (o := .sub) ha hb p2 q1⟩
  | mul =>
    obtain ⟨e1, e2, e3⟩ := prodR_ends p q
    have all : ∀ x ∈ [p.1 * q.1, p.1 * q.2, p.2 * q.1, p.2 * q.2], x.natAbs ≤ 10000 ^ (a + b) := fun x hx => by
      simp only [List.mem_cons, List.not_mem_nil, or_false] at hx
      rcases hx with rfl | rfl | rfl | rfl
      · exact opI_bd (o := .mul) ha hb p1 q1
      · exact opI_bd (o := .mul) ha hb p1 q2
      · exact opI_bd (o := .mul) ha hb p2 q1
      · exact opI_bd (o := .mul) ha hb p2 q2
    exact ⟨(e3 _ e2).1, all _ e1, all _ e2⟩
theorem rgX_bd {k : Nat → Int × Int} : ∀ {x : X}, okX x → (∀ i ∈ nmX x, bdR 1 (k i)) → bdR (lv x) (rgX k x)
  | .c z, h, _ => by
    have := h.1
    have := h.2
    exact ⟨Int.le_refl _, by show z.natAbs ≤ 10000; omega, by show z.natAbs ≤ 10000; omega⟩
  | .v i, _, hk => hk i (by simp [nmX])
  | .b o l r, h, hk => opR_bd (lv_pos l) (lv_pos r) (rgX_bd h.1 fun i hi => hk i (List.mem_append_left _ hi)) (rgX_bd h.2 fun i hi => hk i (List.mem_append_right _ hi))
theorem mul_bt {a b x c : Int} (h1 : a ≤ x) (h2 : x ≤ b) : (a * c ≤ x * c ∨ b * c ≤ x * c) ∧ (x * c ≤ a * c ∨ x * c ≤ b * c) := by
  rcases Int.le_total 0 c with h | h
  · exact ⟨.inl (Int.mul_le_mul_of_nonneg_right h1 h), .inr (Int.mul_le_mul_of_nonneg_right h2 h)⟩
  · exact ⟨.inr (Int.mul_le_mul_of_nonpos_right h2 h), .inl (Int.mul_le_mul_of_nonpos_right h1 h)⟩
theorem opR_in {o : Op} {p q : Int × Int} {x y : Int} (h1 : p.1 ≤ x ∧ x ≤ p.2) (h2 : q.1 ≤ y ∧ y ≤ q.2) : (opR o p q).1 ≤ opI o x y ∧ opI o x y ≤ (opR o p q).2 := by
  cases o with
  | add => show p.1 + q.1 ≤ x + y ∧ x + y ≤ p.2 + q.2; omega
  | sub => show p.1 - q.2 ≤ x - y ∧ x - y ≤ p.2 - q.1; omega
  | mul =>
    show (prodR p q).1 ≤ x * y ∧ x * y ≤ (prodR p q).2
    obtain ⟨_, _, e⟩ := prodR_ends p q
    have c1 := e (p.1 * q.1) (by simp)
    have c2 := e (p.1 * q.2) (by simp)
    have c3 := e (p.2 * q.1) (by simp)
    have c4 := e (p.2 * q.2) (by simp)
    have z := mul_bt (c := y) h1.1 h1.2
    have z1 := mul_bt (c := p.1) h2.1 h2.2
    have z2 := mul_bt (c := p.2) h2.1 h2.2
    rw [Int.mul_comm q.1, Int.mul_comm q.2, Int.mul_comm y] at z1 z2
    omega
theorem val_in {k : Nat → Int} {kr : Nat → Int × Int} : ∀ {x : X}, (∀ i ∈ nmX x, (kr i).1 ≤ k i ∧ k i ≤ (kr i).2) → (rgX kr x).1 ≤ val k x ∧ val k x ≤ (rgX kr x).2
  | .c z, _ => ⟨Int.le_refl _, Int.le_refl _⟩
  | .v i, h => h i (by simp [nmX])
  | .b o l r, h => opR_in (val_in fun i hi => h i (List.mem_append_left _ hi)) (val_in fun i hi => h i (List.mem_append_right _ hi))
theorem fprodG (n : Nat) {a b : Nat} {p q : Int × Int} (h : a + b ≤ 6) (hp : bdR a p) (hq : bdR b q) : call fs (n + 1) 3 [pr p, pr q] = .ok (pr (prodR p q), false) := by
  have m1 := mulOk h hp.2.1 hq.2.1
  have m2 := mulOk h hp.2.1 hq.2.2
  have m3 := mulOk h hp.2.2 hq.2.1
  have m4 := mulOk h hp.2.2 hq.2.2
  have z4 : (4 : Nat) ≤ szl := by unfold szl; omega
  rw [cs3, runF_eq rfl]
  simp only [ev_var, ev_cst, ev_tup, ev_lst, ev_bin, ev_neg, ev_cmp, ev_chain, ev_isc, ev_and, ev_or, ev_not, ev_ifx, ev_ix, ev_slA, ev_slB, ev_slC, ev_call, ev_callv, ev_prim, ev_rng, ev_srs, ev_srl, ev_dnew, ev_rev, ev_comp, ev_compf, ev_comp2, evs_nil, evs_cons, sr_seq, sr_rg1, sr_rg2, sr_zip, sr_enum, ex_set, ex_unp, ex_par2, ex_par3, ex_drop, ex_app, ex_ext, ex_rem, ex_put, ex_ret, ex_retV, ex_retN, ex_pass, ex_ife, ex_forr, ex_whl, ex_raise, ex_try, exs_nil, exs_cons, andK_t, andK_f, orK_t, orK_f, ixK_t, ixK_f, chK_t, chK_f, cvK_fn, ifK_t, ifK_f, forK_n, varK_s, rvK_s, unpK_s, ownK_t, lenK_t, seqK_l, seqK_t, seqK_s, zipK_l, zipK_t, enuK_l, enuK_t, negK_i, iscK_t, iscK_f, tryO_nx, tryO_ret, bd_ok, bd_err, bd_bad, on_ok, on_err, on_bad, th_nx, th_ret, th_err, th_bad, boolR_ok, boolR_err, intR_ok, intR_err, noErr_ok, okIf_true, b_addI, b_subI, b_mulI, b_fdI, b_mdI, b_pwI, b_shI, c_lt, c_le, c_gt, c_ge, c_scr, c_eqI, c_neI, c_neB, c_eqB, x_lst, x_tup, x_dcs, c_inS, c_niS, c_ltS, p_dictL, p_dictT, p_lenL, p_lenT, p_lenS, p_minI, p_maxI, p_isi, p_tupL, p_tupT, p_lstL, p_lstT, p_intB, p_intI, tyD, isD, view_eq, viewF_nil, viewF_cons, vw_none, vw_val, vw_own0, isOwn, appL, viewA_nil, viewA_cons, vA_some, vA_none, after_nil, bindS, bindTg, Option.bind_some, List.map_cons, List.map_nil, List.cons_append, List.nil_append, List.set_cons_zero, List.set_cons_succ, List.getElem?_cons_zero, List.getElem?_cons_succ, List.length_cons, List.length_nil, List.isEmpty_nil, List.isEmpty_cons, ↓reduceIte, outR_nx, outR_ret, outR_err, Bool.not_true, Bool.not_false, Bool.false_and, Bool.true_and, Bool.and_true, Bool.and_false, Bool.or_true, Bool.true_or, Bool.false_or, Bool.or_false, Bool.false_eq_true, decide_true, decide_false, at0, at1, at2, at3, nabs, nabs_neg, ncast, beq_self_eq_true, List.replicate_succ, List.replicate_zero, Nat.reduceLT, Nat.reduceLeDiff, Nat.reduceLT, Nat.reduceAdd, Int.reduceLT, Int.reduceLE, Int.reduceNeg, Int.reduceEq, Int.reduceBEq, Int.reduceSub, Int.reduceAdd, Int.reduceMul, Int.reduceToNat, Nat.reduceSub, Nat.reduceMul, Nat.reduceEqDiff, lg, reduceCtorEq, Option.map_some, Option.map_none, f3, cm2K, catL, cm2T, compL, wipeE, m1, m2, m3, m4, z4, p_min, p_max, ints?]
  rfl
section
variable {K : D} {k : Nat → Int × Int}
theorem findR : ∀ (x : X) (n : Nat), okX x → lv x ≤ n → lv x ≤ 6 → (∀ i ∈ nmX x, bdR 1 (k i)) → (∀ i ∈ nmX x, ixD K (.str (nmS i)) = .ok (pr (k i), false)) → call fs (n + 1) 17 [xD x, K] = .ok (pr (rgX k x), false)
  | .c z, 0, _, hn, _, _, _ => by simp [lv] at hn
  | .v i, 0, _, hn, _, _, _ => by simp [lv] at hn
  | .b o l r, 0, _, hn, _, _, _ => by have := lv_pos l; simp only [lv] at hn; omega
  | .c z, n + 1, _, hn, _, _, _ => by
    rw [cs17, runF_eq rfl]
    simp only [ev_var, ev_cst, ev_tup, ev_lst, ev_bin, ev_neg, ev_cmp, ev_chain, ev_isc, ev_and, ev_or, ev_not, ev_ifx, ev_ix, ev_slA, ev_slB, ev_slC, ev_call, ev_callv, ev_prim, ev_rng, ev_srs, ev_srl, ev_dnew, ev_rev, ev_comp, ev_compf, ev_comp2, evs_nil, evs_cons, sr_seq, sr_rg1, sr_rg2, sr_zip, sr_enum, ex_set, ex_unp, ex_par2, ex_par3, ex_drop, ex_app, ex_ext, ex_rem, ex_put, ex_ret, ex_retV, ex_retN, ex_pass, ex_ife, ex_forr, ex_whl, ex_raise, ex_try, exs_nil, exs_cons, andK_t, andK_f, orK_t, orK_f, ixK_t, ixK_f, chK_t, chK_f, cvK_fn, ifK_t, ifK_f, forK_n, varK_s, rvK_s, unpK_s, ownK_t, lenK_t, seqK_l, seqK_t, seqK_s, zipK_l, zipK_t, enuK_l, enuK_t, negK_i, iscK_t, iscK_f, tryO_nx, tryO_ret, bd_ok, bd_err, bd_bad, on_ok, on_err, on_bad, th_nx, th_ret, th_err, th_bad, boolR_ok, boolR_err, intR_ok, intR_err, noErr_ok, okIf_true, b_addI, b_subI, b_mulI, b_fdI, b_mdI, b_pwI, b_shI, c_lt, c_le, c_gt, c_ge, c_scr, c_eqI, c_neI, c_neB, c_eqB, x_lst, x_tup, x_dcs, c_inS, c_niS, c_ltS, p_dictL, p_dictT, p_lenL, p_lenT, p_lenS, p_minI, p_maxI, p_isi, p_tupL, p_tupT, p_lstL, p_lstT, p_intB, p_intI, tyD, isD, view_eq, viewF_nil, viewF_cons, vw_none, vw_val, vw_own0, isOwn, appL, viewA_nil, viewA_cons, vA_some, vA_none, after_nil, bindS, bindTg, Option.bind_some, List.map_cons, List.map_nil, List.cons_append, List.nil_append, List.set_cons_zero, List.set_cons_succ, List.getElem?_cons_zero, List.getElem?_cons_succ, List.length_cons, List.length_nil, List.isEmpty_nil, List.isEmpty_cons, ↓reduceIte, outR_nx, outR_ret, outR_err, Bool.not_true, Bool.not_false, Bool.false_and, Bool.true_and, Bool.and_true, Bool.and_false, Bool.or_true, Bool.true_or, Bool.false_or, Bool.or_false, Bool.false_eq_true, decide_true, decide_false, at0, at1, at2, at3, nabs, nabs_neg, ncast, beq_self_eq_true, List.replicate_succ, List.replicate_zero, Nat.reduceLT, Nat.reduceLeDiff, Nat.reduceLT, Nat.reduceAdd, Int.reduceLT, Int.reduceLE, Int.reduceNeg, Int.reduceEq, Int.reduceBEq, Int.reduceSub, Int.reduceAdd, Int.reduceMul, Int.reduceToNat, Nat.reduceSub, Nat.reduceMul, Nat.reduceEqDiff, lg, reduceCtorEq, Option.map_some, Option.map_none, f17, xD, eqQ, okc, okv, kcc, kcv]
    rfl
  | .v i, n + 1, _, hn, _, _, hK => by
    have q := hK i (by simp [nmX])
    rw [cs17, runF_eq rfl]
    simp only [ev_var, ev_cst, ev_tup, ev_lst, ev_bin, ev_neg, ev_cmp, ev_chain, ev_isc, ev_and, ev_or, ev_not, ev_ifx, ev_ix, ev_slA, ev_slB, ev_slC, ev_call, ev_callv, ev_prim, ev_rng, ev_srs, ev_srl, ev_dnew, ev_rev, ev_comp, ev_compf, ev_comp2, evs_nil, evs_cons, sr_seq, sr_rg1, sr_rg2, sr_zip, sr_enum, ex_set, ex_unp, ex_par2, ex_par3, ex_drop, ex_app, ex_ext, ex_rem, ex_put, ex_ret, ex_retV, ex_retN, ex_pass, ex_ife, ex_forr, ex_whl, ex_raise, ex_try, exs_nil, exs_cons, andK_t, andK_f, orK_t, orK_f, ixK_t, ixK_f, chK_t, chK_f, cvK_fn, ifK_t, ifK_f, forK_n, varK_s, rvK_s, unpK_s, ownK_t, lenK_t, seqK_l, seqK_t, seqK_s, zipK_l, zipK_t, enuK_l, enuK_t, negK_i, iscK_t, iscK_f, tryO_nx, tryO_ret, bd_ok, bd_err, bd_bad, on_ok, on_err, on_bad, th_nx, th_ret, th_err, th_bad, boolR_ok, boolR_err, intR_ok, intR_err, noErr_ok, okIf_true, b_addI, b_subI, b_mulI, b_fdI, b_mdI, b_pwI, b_shI, c_lt, c_le, c_gt, c_ge, c_scr, c_eqI, c_neI, c_neB, c_eqB, x_lst, x_tup, x_dcs, c_inS, c_niS, c_ltS, p_dictL, p_dictT, p_lenL, p_lenT, p_lenS, p_minI, p_maxI, p_isi, p_tupL, p_tupT, p_lstL, p_lstT, p_intB, p_intI, tyD, isD, view_eq, viewF_nil, viewF_cons, vw_none, vw_val, vw_own0, isOwn, appL, viewA_nil, viewA_cons, vA_some, vA_none, after_nil, bindS, bindTg, Option.bind_some, List.map_cons, List.map_nil, List.cons_append, List.nil_append, List.set_cons_zero, List.set_cons_succ, List.getElem?_cons_zero, List.getElem?_cons_succ, List.length_cons, List.length_nil, List.isEmpty_nil, List.isEmpty_cons, ↓reduceIte, outR_nx, outR_ret, outR_err, Bool.not_true, Bool.not_false, Bool.false_and, Bool.true_and, Bool.and_true, Bool.and_false, Bool.or_true, Bool.true_or, Bool.false_or, Bool.or_false, Bool.false_eq_true, decide_true, decide_false, at0, at1, at2, at3, nabs, nabs_neg, ncast, beq_self_eq_true, List.replicate_succ, List.replicate_zero, Nat.reduceLT, Nat.reduceLeDiff, Nat.reduceLT, Nat.reduceAdd, Int.reduceLT, Int.reduceLE, Int.reduceNeg, Int.reduceEq, Int.reduceBEq, Int.reduceSub, Int.reduceAdd, Int.reduceMul, Int.reduceToNat, Nat.reduceSub, Nat.reduceMul, Nat.reduceEqDiff, lg, reduceCtorEq, Option.map_some, Option.map_none, f17, xD, eqQ, okc, okv, kvc, kvv, q]
    rfl
  | .b o l r, n + 1, ok, hn, h6, hk, hK => by
    have p1 := lv_pos l
    have p2 := lv_pos r
    simp only [lv] at hn h6
    have kl : ∀ i ∈ nmX l, bdR 1 (k i) := fun i hi => hk i (List.mem_append_left _ hi)
    have kr : ∀ i ∈ nmX r, bdR 1 (k i) := fun i hi => hk i (List.mem_append_right _ hi)
    have e1 := findR l n ok.1 (by omega) (by omega) kl fun i hi => hK i (List.mem_append_left _ hi)
    have e2 := findR r n ok.2 (by omega) (by omega) kr fun i hi => hK i (List.mem_append_right _ hi)
    have m : call fs (n + 1) 3 [.tup [.int (rgX k l).1, .int (rgX k l).2], .tup [.int (rgX k r).1, .int (rgX k r).2]] = _ := fprodG n h6 (rgX_bd ok.1 kl) (rgX_bd ok.2 kr)
    rw [cs17, runF_eq rfl]
    cases o <;> simp only [ev_var, ev_cst, ev_tup, ev_lst, ev_bin, ev_neg, ev_cmp, ev_chain, ev_isc, ev_and, ev_or, ev_not, ev_ifx, ev_ix, ev_slA, ev_slB, ev_slC, ev_call, ev_callv, ev_prim, ev_rng, ev_srs, ev_srl, ev_dnew, ev_rev, ev_comp, ev_compf, ev_comp2, evs_nil, evs_cons, sr_seq, sr_rg1, sr_rg2, sr_zip, sr_enum, ex_set, ex_unp, ex_par2, ex_par3, ex_drop, ex_app, ex_ext, ex_rem, ex_put, ex_ret, ex_retV, ex_retN, ex_pass, ex_ife, ex_forr, ex_whl, ex_raise, ex_try, exs_nil, exs_cons, andK_t, andK_f, orK_t, orK_f, ixK_t, ixK_f, chK_t, chK_f, cvK_fn, ifK_t, ifK_f, forK_n, varK_s, rvK_s, unpK_s, ownK_t, lenK_t, seqK_l, seqK_t, seqK_s, zipK_l, zipK_t, enuK_l, enuK_t, negK_i, iscK_t, iscK_f, tryO_nx, tryO_ret, bd_ok, bd_err, bd_bad, on_ok, on_err, on_bad, th_nx, th_ret, th_err, th_bad, boolR_ok, boolR_err, intR_ok, intR_err, noErr_ok, okIf_true, b_addI, b_subI, b_mulI, b_fdI, b_mdI, b_pwI, b_shI, c_lt, c_le, c_gt, c_ge, c_scr, c_eqI, c_neI, c_neB, c_eqB, x_lst, x_tup, x_dcs, c_inS, c_niS, c_ltS, p_dictL, p_dictT, p_lenL, p_lenT, p_lenS, p_minI, p_maxI, p_isi, p_tupL, p_tupT, p_lstL, p_lstT, p_intB, p_intI, tyD, isD, view_eq, viewF_nil, viewF_cons, vw_none, vw_val, vw_own0, isOwn, appL, viewA_nil, viewA_cons, vA_some, vA_none, after_nil, bindS, bindTg, Option.bind_some, List.map_cons, List.map_nil, List.cons_append, List.nil_append, List.set_cons_zero, List.set_cons_succ, List.getElem?_cons_zero, List.getElem?_cons_succ, List.length_cons, List.length_nil, List.isEmpty_nil, List.isEmpty_cons, ↓reduceIte, outR_nx, outR_ret, outR_err, Bool.not_true, Bool.not_false, Bool.false_and, Bool.true_and, Bool.and_true, Bool.and_false, Bool.or_true, Bool.true_or, Bool.false_or, Bool.or_false, Bool.false_eq_true, decide_true, decide_false, at0, at1, at2, at3, nabs, nabs_neg, ncast, beq_self_eq_true, List.replicate_succ, List.replicate_zero, Nat.reduceLT, Nat.reduceLeDiff, Nat.reduceLT, Nat.reduceAdd, Int.reduceLT, Int.reduceLE, Int.reduceNeg, Int.reduceEq, Int.reduceBEq, Int.reduceSub, Int.reduceAdd, Int.reduceMul, Int.reduceToNat, Nat.reduceSub, Nat.reduceMul, Nat.reduceEqDiff, lg, reduceCtorEq, Option.map_some, Option.map_none, f17, xD, eqQ, oks, okc, okv, okp, okm, ksc, ksv, ksp, ksm, e1, e2, m] <;> rfl
theorem mm2 {a b : Int} (h : a ≤ b) : minL a [b] = a ∧ maxL a [b] = b := by
  constructor
  · show (if b < a then b else a) = a
    rw [if_neg (by omega)]
  · show (if a < b then b else a) = b
    by_cases c : a < b
    · rw [if_pos c]
    · rw [if_neg c]; omega
theorem lawR : ∀ (x : X) (n : Nat), okX x → lv x ≤ n → lv x ≤ 6 → (∀ i ∈ nmX x, bdR 1 (k i)) → (∀ i ∈ nmX x, ixD K (.str (nmS i)) = .ok (pr (k i), false)) → call fs n 26 [xD x, K] = .ok (pr (rgX k x), false)
  | .c z, 0, _, hn, _, _, _ => by simp [lv] at hn
  | .v i, 0, _, hn, _, _, _ => by simp [lv] at hn
  | .b o l r, 0, _, hn, _, _, _ => by have := lv_pos l; simp only [lv] at hn; omega
  | .c z, n + 1, _, hn, _, _, _ => by
    rw [cs26, runF_eq rfl]
    simp only [ev_var, ev_cst, ev_tup, ev_lst, ev_bin, ev_neg, ev_cmp, ev_chain, ev_isc, ev_and, ev_or, ev_not, ev_ifx, ev_ix, ev_slA, ev_slB, ev_slC, ev_call, ev_callv, ev_prim, ev_rng, ev_srs, ev_srl, ev_dnew, ev_rev, ev_comp, ev_compf, ev_comp2, evs_nil, evs_cons, sr_seq, sr_rg1, sr_rg2, sr_zip, sr_enum, ex_set, ex_unp, ex_par2, ex_par3, ex_drop, ex_app, ex_ext, ex_rem, ex_put, ex_ret, ex_retV, ex_retN, ex_pass, ex_ife, ex_forr, ex_whl, ex_raise, ex_try, exs_nil, exs_cons, andK_t, andK_f, orK_t, orK_f, ixK_t, ixK_f, chK_t, chK_f, cvK_fn, ifK_t, ifK_f, forK_n, varK_s, rvK_s, unpK_s, ownK_t, lenK_t, seqK_l, seqK_t, seqK_s, zipK_l, zipK_t, enuK_l, enuK_t, negK_i, iscK_t, iscK_f, tryO_nx, tryO_ret, bd_ok, bd_err, bd_bad, on_ok, on_err, on_bad, th_nx, th_ret, th_err, th_bad, boolR_ok, boolR_err, intR_ok, intR_err, noErr_ok, okIf_true, b_addI, b_subI, b_mulI, b_fdI, b_mdI, b_pwI, b_shI, c_lt, c_le, c_gt, c_ge, c_scr, c_eqI, c_neI, c_neB, c_eqB, x_lst, x_tup, x_dcs, c_inS, c_niS, c_ltS, p_dictL, p_dictT, p_lenL, p_lenT, p_lenS, p_minI, p_maxI, p_isi, p_tupL, p_tupT, p_lstL, p_lstT, p_intB, p_intI, tyD, isD, view_eq, viewF_nil, viewF_cons, vw_none, vw_val, vw_own0, isOwn, appL, viewA_nil, viewA_cons, vA_some, vA_none, after_nil, bindS, bindTg, Option.bind_some, List.map_cons, List.map_nil, List.cons_append, List.nil_append, List.set_cons_zero, List.set_cons_succ, List.getElem?_cons_zero, List.getElem?_cons_succ, List.length_cons, List.length_nil, List.isEmpty_nil, List.isEmpty_cons, ↓reduceIte, outR_nx, outR_ret, outR_err, Bool.not_true, Bool.not_false, Bool.false_and, Bool.true_and, Bool.and_true, Bool.and_false, Bool.or_true, Bool.true_or, Bool.false_or, Bool.or_false, Bool.false_eq_true, decide_true, decide_false, at0, at1, at2, at3, nabs, nabs_neg, ncast, beq_self_eq_true, List.replicate_succ, List.replicate_zero, Nat.reduceLT, Nat.reduceLeDiff, Nat.reduceLT, Nat.reduceAdd, Int.reduceLT, Int.reduceLE, Int.reduceNeg, Int.reduceEq, Int.reduceBEq, Int.reduceSub, Int.reduceAdd, Int.reduceMul, Int.reduceToNat, Nat.reduceSub, Nat.reduceMul, Nat.reduceEqDiff, lg, reduceCtorEq, Option.map_some, Option.map_none, f26, xD, eqQ, okc, okv, kcc, kcv]
    rfl
  | .v i, n + 1, _, hn, _, _, hK => by
    have q := hK i (by simp [nmX])
    rw [cs26, runF_eq rfl]
    simp only [ev_var, ev_cst, ev_tup, ev_lst, ev_bin, ev_neg, ev_cmp, ev_chain, ev_isc, ev_and, ev_or, ev_not, ev_ifx, ev_ix, ev_slA, ev_slB, ev_slC, ev_call, ev_callv, ev_prim, ev_rng, ev_srs, ev_srl, ev_dnew, ev_rev, ev_comp, ev_compf, ev_comp2, evs_nil, evs_cons, sr_seq, sr_rg1, sr_rg2, sr_zip, sr_enum, ex_set, ex_unp, ex_par2, ex_par3, ex_drop, ex_app, ex_ext, ex_rem, ex_put, ex_ret, ex_retV, ex_retN, ex_pass, ex_ife, ex_forr, ex_whl, ex_raise, ex_try, exs_nil, exs_cons, andK_t, andK_f, orK_t, orK_f, ixK_t, ixK_f, chK_t, chK_f, cvK_fn, ifK_t, ifK_f, forK_n, varK_s, rvK_s, unpK_s, ownK_t, lenK_t, seqK_l, seqK_t, seqK_s, zipK_l, zipK_t, enuK_l, enuK_t, negK_i, iscK_t, iscK_f, tryO_nx, tryO_ret, bd_ok, bd_err, bd_bad, on_ok, on_err, on_bad, th_nx, th_ret, th_err, th_bad, boolR_ok, boolR_err, intR_ok, intR_err, noErr_ok, okIf_true, b_addI, b_subI, b_mulI, b_fdI, b_mdI, b_pwI, b_shI, c_lt, c_le, c_gt, c_ge, c_scr, c_eqI, c_neI, c_neB, c_eqB, x_lst, x_tup, x_dcs, c_inS, c_niS, c_ltS, p_dictL, p_dictT, p_lenL, p_lenT, p_lenS, p_minI, p_maxI, p_isi, p_tupL, p_tupT, p_lstL, p_lstT, p_intB, p_intI, tyD, isD, view_eq, viewF_nil, viewF_cons, vw_none, vw_val, vw_own0, isOwn, appL, viewA_nil, viewA_cons, vA_some, vA_none, after_nil, bindS, bindTg, Option.bind_some, List.map_cons, List.map_nil, List.cons_append, List.nil_append, List.set_cons_zero, List.set_cons_succ, List.getElem?_cons_zero, List.getElem?_cons_succ, List.length_cons, List.length_nil, List.isEmpty_nil, List.isEmpty_cons, ↓reduceIte, outR_nx, outR_ret, outR_err, Bool.not_true, Bool.not_false, Bool.false_and, Bool.true_and, Bool.and_true, Bool.and_false, Bool.or_true, Bool.true_or, Bool.false_or, Bool.or_false, Bool.false_eq_true, decide_true, decide_false, at0, at1, at2, at3, nabs, nabs_neg, ncast, beq_self_eq_true, List.replicate_succ, List.replicate_zero, Nat.reduceLT, Nat.reduceLeDiff, Nat.reduceLT, Nat.reduceAdd, Int.reduceLT, Int.reduceLE, Int.reduceNeg, Int.reduceEq, Int.reduceBEq, Int.reduceSub, Int.reduceAdd, Int.reduceMul, Int.reduceToNat, Nat.reduceSub, Nat.reduceMul, Nat.reduceEqDiff, lg, reduceCtorEq, Option.map_some, Option.map_none, f26, xD, eqQ, okc, okv, kvc, kvv, q]
    rfl
  | .b o l r, n + 1, ok, hn, h6, hk, hK => by
    have p1 := lv_pos l
    have p2 := lv_pos r
    simp only [lv] at hn h6
    have kl : ∀ i ∈ nmX l, bdR 1 (k i) := fun i hi => hk i (List.mem_append_left _ hi)
    have kr : ∀ i ∈ nmX r, bdR 1 (k i) := fun i hi => hk i (List.mem_append_right _ hi)
    have e1 := lawR l n ok.1 (by omega) (by omega) kl fun i hi => hK i (List.mem_append_left _ hi)
    have e2 := lawR r n ok.2 (by omega) (by omega) kr fun i hi => hK i (List.mem_append_right _ hi)
    have b1 := rgX_bd ok.1 kl
    have b2 := rgX_bd ok.2 kr
    have m1 := mulOk h6 b1.2.1 b2.2.1
    have m2 := mulOk h6 b1.2.1 b2.2.2
    have m3 := mulOk h6 b1.2.2 b2.2.1
    have m4 := mulOk h6 b1.2.2 b2.2.2
    have a1 := mm2 (opR_bd (o := .add) p1 p2 b1 b2).1
    have a2 := mm2 (opR_bd (o := .sub) p1 p2 b1 b2).1
    simp only [opR] at a1 a2
    rw [cs26, runF_eq rfl]
    cases o <;> simp only [ev_var, ev_cst, ev_tup, ev_lst, ev_bin, ev_neg, ev_cmp, ev_chain, ev_isc, ev_and, ev_or, ev_not, ev_ifx, ev_ix, ev_slA, ev_slB, ev_slC, ev_call, ev_callv, ev_prim, ev_rng, ev_srs, ev_srl, ev_dnew, ev_rev, ev_comp, ev_compf, ev_comp2, evs_nil, evs_cons, sr_seq, sr_rg1, sr_rg2, sr_zip, sr_enum, ex_set, ex_unp, ex_par2, ex_par3, ex_drop, ex_app, ex_ext, ex_rem, ex_put, ex_ret, ex_retV, ex_retN, ex_pass, ex_ife, ex_forr, ex_whl, ex_raise, ex_try, exs_nil, exs_cons, andK_t, andK_f, orK_t, orK_f, ixK_t, ixK_f, chK_t, chK_f, cvK_fn, ifK_t, ifK_f, forK_n, varK_s, rvK_s, unpK_s, ownK_t, lenK_t, seqK_l, seqK_t, seqK_s, zipK_l, zipK_t, enuK_l, enuK_t, negK_i, iscK_t, iscK_f, tryO_nx, tryO_ret, bd_ok, bd_err, bd_bad, on_ok, on_err, on_bad, th_nx, th_ret, th_err, th_bad, boolR_ok, boolR_err, intR_ok, intR_err, noErr_ok, okIf_true, b_addI, b_subI, b_mulI, b_fdI, b_mdI, b_pwI, b_shI, c_lt, c_le, c_gt, c_ge, c_scr, c_eqI, c_neI, c_neB, c_eqB, x_lst, x_tup, x_dcs, c_inS, c_niS, c_ltS, p_dictL, p_dictT, p_lenL, p_lenT, p_lenS, p_minI, p_maxI, p_isi, p_tupL, p_tupT, p_lstL, p_lstT, p_intB, p_intI, tyD, isD, view_eq, viewF_nil, viewF_cons, vw_none, vw_val, vw_own0, isOwn, appL, viewA_nil, viewA_cons, vA_some, vA_none, after_nil, bindS, bindTg, Option.bind_some, List.map_cons, List.map_nil, List.cons_append, List.nil_append, List.set_cons_zero, List.set_cons_succ, List.getElem?_cons_zero, List.getElem?_cons_succ, List.length_cons, List.length_nil, List.isEmpty_nil, List.isEmpty_cons, ↓reduceIte, outR_nx, outR_ret, outR_err, Bool.not_true, Bool.not_false, Bool.false_and, Bool.true_and, Bool.and_true, Bool.and_false, Bool.or_true, Bool.true_or, Bool.false_or, Bool.or_false, Bool.false_eq_true, decide_true, decide_false, at0, at1, at2, at3, nabs, nabs_neg, ncast, beq_self_eq_true, List.replicate_succ, List.replicate_zero, Nat.reduceLT, Nat.reduceLeDiff, Nat.reduceLT, Nat.reduceAdd, Int.reduceLT, Int.reduceLE, Int.reduceNeg, Int.reduceEq, Int.reduceBEq, Int.reduceSub, Int.reduceAdd, Int.reduceMul, Int.reduceToNat, Nat.reduceSub, Nat.reduceMul, Nat.reduceEqDiff, lg, reduceCtorEq, Option.map_some, Option.map_none, f26, xD, eqQ, oks, okc, okv, okp, okm, ksc, ksv, ksp, ksm, e1, e2, m1, m2, m3, m4, p_min, p_max, ints?, Option.map_some, a1.1, a1.2, a2.1, a2.2] <;> rfl
end

/-! dicts of names; the two functions -/
def fnd {α : Type} (d : α) : List (Nat × α) → Nat → α
  | [], _ => d
  | p :: r, i => if p.1 = i then p.2 else fnd d r i
theorem fnd_mem {α : Type} {d : α} : ∀ {l : List (Nat × α)} {i : Nat}, i ∈ l.map (·.1) → (i, fnd d l i) ∈ l
  | [], i, h => by simp at h
  | p :: r, i, h => by
    unfold fnd
    by_cases c : p.1 = i
    · rw [if_pos c, ← c]; exact List.mem_cons_self
    · rw [if_neg c]
      rcases List.mem_cons.mp h with e | e
      · exact absurd e.symm c
      · exact List.mem_cons_of_mem _ (fnd_mem e)
theorem nm_inj {i j : Nat} (h : nmS i = nmS j) : i = j := by
  have := congrArg (fun x : Str => x.cps.toList) h
  have : [97 + i] = [97 + j] := this
  simp only [List.cons.injEq, and_true] at this
  omega
theorem getS_fnd {α : Type} (g : α → D) (d : α) : ∀ {l : List (Nat × α)} {i : Nat}, i ∈ l.map (·.1) → getS (l.map fun p => nmS p.1) (l.map fun p => g p.2) (nmS i) = some (g (fnd d l i))
  | [], i, h => by simp at h
  | p :: r, i, h => by
    simp only [List.map_cons, getS, fnd]
    by_cases c : p.1 = i
    · rw [if_pos (by rw [c]), if_pos c]
    · rw [if_neg (fun z => c (nm_inj z)), if_neg c]
      refine getS_fnd g d ?_
      rcases List.mem_cons.mp h with e | e
      · exact absurd e.symm c
      · exact e
theorem asc_tail {a : Nat} {l : List Nat} (h : asc (a :: l)) : asc l := by
  cases l with
  | nil => trivial
  | cons b r => exact h.2
theorem asc_lt {a : Nat} : ∀ {l : List Nat}, asc (a :: l) → ∀ x ∈ l, a < x
  | [], _, x, hx => by simp at hx
  | b :: r, h, x, hx => by
    rcases List.mem_cons.mp hx with e | e
    · rw [e]; exact h.1
    · exact Nat.lt_trans h.1 (asc_lt h.2 x e)
theorem asc_nodup : ∀ {l : List Nat}, asc l → l.Nodup
  | [], _ => List.nodup_nil
  | a :: l, h => List.nodup_cons.mpr ⟨fun z => Nat.lt_irrefl _ (asc_lt h a z), asc_nodup (asc_tail h)⟩
theorem nmS_nodup {α : Type} {l : List (Nat × α)} (h : asc (l.map (·.1))) : (l.map fun p => nmS p.1).Nodup := by
  have := (asc_nodup h)
  rw [show (l.map fun p => nmS p.1) = (l.map (·.1)).map nmS by rw [List.map_map]; rfl]
  exact List.Pairwise.map nmS (fun a b hab z => hab (nm_inj z)) this
theorem prs_map {α : Type} (g : α → D) : ∀ l : List (Nat × α), prs? (l.map fun p => .tup [.str (nmS p.1), g p.2]) = some (l.map (fun p => nmS p.1), l.map fun p => g p.2)
  | [] => rfl
  | p :: r => by
    simp only [List.map_cons, prs?, prs_map g r, Option.map_some]
/-- dict(rows) -/
def dcN {α : Type} (g : α → D) (l : List (Nat × α)) : D := .dcs (l.map fun p => nmS p.1) (l.map fun p => g p.2)
theorem dof_map {α : Type} (g : α → D) {l : List (Nat × α)} (h : asc (l.map (·.1))) : dofP (l.map fun p => .tup [.str (nmS p.1), g p.2]) = .ok (dcN g l, true) := by
  unfold dofP
  rw [prs_map]
  dsimp only
  rw [decide_eq_true (nmS_nodup h)]
  rfl
theorem ix_dcN {α : Type} (g : α → D) (d : α) {l : List (Nat × α)} {i : Nat} (h : i ∈ l.map (·.1)) : ixD (dcN g l) (.str (nmS i)) = .ok (g (fnd d l i), false) := by
  unfold dcN
  rw [x_dcs, getS_fnd g d h]
theorem dofPt {ps : List (Nat × Int)} (h : asc (ps.map (·.1))) : dofP (ps.map rwP) = .ok (dcN D.int ps, true) := dof_map D.int h
theorem valueAt (n : Nat) (x : X) (ps : List (Nat × Int)) (hx : goodX x) (hp : goodP ps) (hn : ∀ i ∈ nmX x, i ∈ ps.map (·.1)) : call fs (n + 12) 16 [xD x, ptD ps] = .ok (.int (val (fnd 0 ps) x), false) := by
  have hk : ∀ i ∈ nmX x, -9999 ≤ fnd 0 ps i ∧ fnd 0 ps i ≤ 9999 := fun i hi => (hp.1 _ (fnd_mem (d := (0 : Int)) (hn i hi))).2
  have q := findV (K := dcN D.int ps) (k := fnd 0 ps) x (n + 11) hx.1 (by have := hx.2; omega) hx.2 hk fun i hi => ix_dcN D.int 0 (hn i hi)
  rw [show n + 12 = n + 11 + 1 from rfl, cs16, runF_eq rfl]
  simp only [ev_var, ev_cst, ev_tup, ev_lst, ev_bin, ev_neg, ev_cmp, ev_chain, ev_isc, ev_and, ev_or, ev_not, ev_ifx, ev_ix, ev_slA, ev_slB, ev_slC, ev_call, ev_callv, ev_prim, ev_rng, ev_srs, ev_srl, ev_dnew, ev_rev, ev_comp, ev_compf, ev_comp2, evs_nil, evs_cons, sr_seq, sr_rg1, sr_rg2, sr_zip, sr_enum, ex_set, ex_unp, ex_par2, ex_par3, ex_drop, ex_app, ex_ext, ex_rem, ex_put, ex_ret, ex_retV, ex_retN, ex_pass, ex_ife, ex_forr, ex_whl, ex_raise, ex_try, exs_nil, exs_cons, andK_t, andK_f, orK_t, orK_f, ixK_t, ixK_f, chK_t, chK_f, cvK_fn, ifK_t, ifK_f, forK_n, varK_s, rvK_s, unpK_s, ownK_t, lenK_t, seqK_l, seqK_t, seqK_s, zipK_l, zipK_t, enuK_l, enuK_t, negK_i, iscK_t, iscK_f, tryO_nx, tryO_ret, bd_ok, bd_err, bd_bad, on_ok, on_err, on_bad, th_nx, th_ret, th_err, th_bad, boolR_ok, boolR_err, intR_ok, intR_err, noErr_ok, okIf_true, b_addI, b_subI, b_mulI, b_fdI, b_mdI, b_pwI, b_shI, c_lt, c_le, c_gt, c_ge, c_scr, c_eqI, c_neI, c_neB, c_eqB, x_lst, x_tup, x_dcs, c_inS, c_niS, c_ltS, p_dictL, p_dictT, p_lenL, p_lenT, p_lenS, p_minI, p_maxI, p_isi, p_tupL, p_tupT, p_lstL, p_lstT, p_intB, p_intI, tyD, isD, view_eq, viewF_nil, viewF_cons, vw_none, vw_val, vw_own0, isOwn, appL, viewA_nil, viewA_cons, vA_some, vA_none, after_nil, bindS, bindTg, Option.bind_some, List.map_cons, List.map_nil, List.cons_append, List.nil_append, List.set_cons_zero, List.set_cons_succ, List.getElem?_cons_zero, List.getElem?_cons_succ, List.length_cons, List.length_nil, List.isEmpty_nil, List.isEmpty_cons, ↓reduceIte, outR_nx, outR_ret, outR_err, Bool.not_true, Bool.not_false, Bool.false_and, Bool.true_and, Bool.and_true, Bool.and_false, Bool.or_true, Bool.true_or, Bool.false_or, Bool.or_false, Bool.false_eq_true, decide_true, decide_false, at0, at1, at2, at3, nabs, nabs_neg, ncast, beq_self_eq_true, List.replicate_succ, List.replicate_zero, Nat.reduceLT, Nat.reduceLeDiff, Nat.reduceLT, Nat.reduceAdd, Int.reduceLT, Int.reduceLE, Int.reduceNeg, Int.reduceEq, Int.reduceBEq, Int.reduceSub, Int.reduceAdd, Int.reduceMul, Int.reduceToNat, Nat.reduceSub, Nat.reduceMul, Nat.reduceEqDiff, lg, reduceCtorEq, Option.map_some, Option.map_none, f16, chkX n x hx]
  rw [cmpK_mp (g := fun _ => .bl true) fun p hr => ?_]
  · simp only [ev_var, ev_cst, ev_tup, ev_lst, ev_bin, ev_neg, ev_cmp, ev_chain, ev_isc, ev_and, ev_or, ev_not, ev_ifx, ev_ix, ev_slA, ev_slB, ev_slC, ev_call, ev_callv, ev_prim, ev_rng, ev_srs, ev_srl, ev_dnew, ev_rev, ev_comp, ev_compf, ev_comp2, evs_nil, evs_cons, sr_seq, sr_rg1, sr_rg2, sr_zip, sr_enum, ex_set, ex_unp, ex_par2, ex_par3, ex_drop, ex_app, ex_ext, ex_rem, ex_put, ex_ret, ex_retV, ex_retN, ex_pass, ex_ife, ex_forr, ex_whl, ex_raise, ex_try, exs_nil, exs_cons, andK_t, andK_f, orK_t, orK_f, ixK_t, ixK_f, chK_t, chK_f, cvK_fn, ifK_t, ifK_f, forK_n, varK_s, rvK_s, unpK_s, ownK_t, lenK_t, seqK_l, seqK_t, seqK_s, zipK_l, zipK_t, enuK_l, enuK_t, negK_i, iscK_t, iscK_f, tryO_nx, tryO_ret, bd_ok, bd_err, bd_bad, on_ok, on_err, on_bad, th_nx, th_ret, th_err, th_bad, boolR_ok, boolR_err, intR_ok, intR_err, noErr_ok, okIf_true, b_addI, b_subI, b_mulI, b_fdI, b_mdI, b_pwI, b_shI, c_lt, c_le, c_gt, c_ge, c_scr, c_eqI, c_neI, c_neB, c_eqB, x_lst, x_tup, x_dcs, c_inS, c_niS, c_ltS, p_dictL, p_dictT, p_lenL, p_lenT, p_lenS, p_minI, p_maxI, p_isi, p_tupL, p_tupT, p_lstL, p_lstT, p_intB, p_intI, tyD, isD, view_eq, viewF_nil, viewF_cons, vw_none, vw_val, vw_own0, isOwn, appL, viewA_nil, viewA_cons, vA_some, vA_none, after_nil, bindS, bindTg, Option.bind_some, List.map_cons, List.map_nil, List.cons_append, List.nil_append, List.set_cons_zero, List.set_cons_succ, List.getElem?_cons_zero, List.getElem?_cons_succ, List.length_cons, List.length_nil, List.isEmpty_nil, List.isEmpty_cons, ↓reduceIte, outR_nx, outR_ret, outR_err, Bool.not_true, Bool.not_false, Bool.false_and, Bool.true_and, Bool.and_true, Bool.and_false, Bool.or_true, Bool.true_or, Bool.false_or, Bool.or_false, Bool.false_eq_true, decide_true, decide_false, at0, at1, at2, at3, nabs, nabs_neg, ncast, beq_self_eq_true, List.replicate_succ, List.replicate_zero, Nat.reduceLT, Nat.reduceLeDiff, Nat.reduceLT, Nat.reduceAdd, Int.reduceLT, Int.reduceLE, Int.reduceNeg, Int.reduceEq, Int.reduceBEq, Int.reduceSub, Int.reduceAdd, Int.reduceMul, Int.reduceToNat, Nat.reduceSub, Nat.reduceMul, Nat.reduceEqDiff, lg, reduceCtorEq, Option.map_some, Option.map_none, p_allM, all_true, risesP (n + 10) ps hp.2, fitsP (n + 3) x ps hp hx.2 hn, dofPt hp.2, q]
  · simp only [ev_var, ev_cst, ev_tup, ev_lst, ev_bin, ev_neg, ev_cmp, ev_chain, ev_isc, ev_and, ev_or, ev_not, ev_ifx, ev_ix, ev_slA, ev_slB, ev_slC, ev_call, ev_callv, ev_prim, ev_rng, ev_srs, ev_srl, ev_dnew, ev_rev, ev_comp, ev_compf, ev_comp2, evs_nil, evs_cons, sr_seq, sr_rg1, sr_rg2, sr_zip, sr_enum, ex_set, ex_unp, ex_par2, ex_par3, ex_drop, ex_app, ex_ext, ex_rem, ex_put, ex_ret, ex_retV, ex_retN, ex_pass, ex_ife, ex_forr, ex_whl, ex_raise, ex_try, exs_nil, exs_cons, andK_t, andK_f, orK_t, orK_f, ixK_t, ixK_f, chK_t, chK_f, cvK_fn, ifK_t, ifK_f, forK_n, varK_s, rvK_s, unpK_s, ownK_t, lenK_t, seqK_l, seqK_t, seqK_s, zipK_l, zipK_t, enuK_l, enuK_t, negK_i, iscK_t, iscK_f, tryO_nx, tryO_ret, bd_ok, bd_err, bd_bad, on_ok, on_err, on_bad, th_nx, th_ret, th_err, th_bad, boolR_ok, boolR_err, intR_ok, intR_err, noErr_ok, okIf_true, b_addI, b_subI, b_mulI, b_fdI, b_mdI, b_pwI, b_shI, c_lt, c_le, c_gt, c_ge, c_scr, c_eqI, c_neI, c_neB, c_eqB, x_lst, x_tup, x_dcs, c_inS, c_niS, c_ltS, p_dictL, p_dictT, p_lenL, p_lenT, p_lenS, p_minI, p_maxI, p_isi, p_tupL, p_tupT, p_lstL, p_lstT, p_intB, p_intI, tyD, isD, view_eq, viewF_nil, viewF_cons, vw_none, vw_val, vw_own0, isOwn, appL, viewA_nil, viewA_cons, vA_some, vA_none, after_nil, bindS, bindTg, Option.bind_some, List.map_cons, List.map_nil, List.cons_append, List.nil_append, List.set_cons_zero, List.set_cons_succ, List.getElem?_cons_zero, List.getElem?_cons_succ, List.length_cons, List.length_nil, List.isEmpty_nil, List.isEmpty_cons, ↓reduceIte, outR_nx, outR_ret, outR_err, Bool.not_true, Bool.not_false, Bool.false_and, Bool.true_and, Bool.and_true, Bool.and_false, Bool.or_true, Bool.true_or, Bool.false_or, Bool.or_false, Bool.false_eq_true, decide_true, decide_false, at0, at1, at2, at3, nabs, nabs_neg, ncast, beq_self_eq_true, List.replicate_succ, List.replicate_zero, Nat.reduceLT, Nat.reduceLeDiff, Nat.reduceLT, Nat.reduceAdd, Int.reduceLT, Int.reduceLE, Int.reduceNeg, Int.reduceEq, Int.reduceBEq, Int.reduceSub, Int.reduceAdd, Int.reduceMul, Int.reduceToNat, Nat.reduceSub, Nat.reduceMul, Nat.reduceEqDiff, lg, reduceCtorEq, Option.map_some, Option.map_none, cmpT, wipeE, ptRow (n + 8) p (hp.1 p hr)]
def dcB (bs : List (Nat × Int × Int)) : D := dcN (fun q : Int × Int => pr q) bs
theorem dofBx {bs : List (Nat × Int × Int)} (h : asc (bs.map (·.1))) : dofP (bs.map fun r => .tup [.str (nmS r.1), .tup [.int r.2.1, .int r.2.2]]) = .ok (dcB bs, true) := dof_map (fun q : Int × Int => pr q) h
theorem rangesOf (n : Nat) (bs : List (Nat × Int × Int)) (h : asc (bs.map (·.1))) : call fs (n + 1) 18 [bxD bs] = .ok (dcB bs, true) := by
  rw [cs18, runF_eq rfl]
  simp only [ev_var, ev_cst, ev_tup, ev_lst, ev_bin, ev_neg, ev_cmp, ev_chain, ev_isc, ev_and, ev_or, ev_not, ev_ifx, ev_ix, ev_slA, ev_slB, ev_slC, ev_call, ev_callv, ev_prim, ev_rng, ev_srs, ev_srl, ev_dnew, ev_rev, ev_comp, ev_compf, ev_comp2, evs_nil, evs_cons, sr_seq, sr_rg1, sr_rg2, sr_zip, sr_enum, ex_set, ex_unp, ex_par2, ex_par3, ex_drop, ex_app, ex_ext, ex_rem, ex_put, ex_ret, ex_retV, ex_retN, ex_pass, ex_ife, ex_forr, ex_whl, ex_raise, ex_try, exs_nil, exs_cons, andK_t, andK_f, orK_t, orK_f, ixK_t, ixK_f, chK_t, chK_f, cvK_fn, ifK_t, ifK_f, forK_n, varK_s, rvK_s, unpK_s, ownK_t, lenK_t, seqK_l, seqK_t, seqK_s, zipK_l, zipK_t, enuK_l, enuK_t, negK_i, iscK_t, iscK_f, tryO_nx, tryO_ret, bd_ok, bd_err, bd_bad, on_ok, on_err, on_bad, th_nx, th_ret, th_err, th_bad, boolR_ok, boolR_err, intR_ok, intR_err, noErr_ok, okIf_true, b_addI, b_subI, b_mulI, b_fdI, b_mdI, b_pwI, b_shI, c_lt, c_le, c_gt, c_ge, c_scr, c_eqI, c_neI, c_neB, c_eqB, x_lst, x_tup, x_dcs, c_inS, c_niS, c_ltS, p_dictL, p_dictT, p_lenL, p_lenT, p_lenS, p_minI, p_maxI, p_isi, p_tupL, p_tupT, p_lstL, p_lstT, p_intB, p_intI, tyD, isD, view_eq, viewF_nil, viewF_cons, vw_none, vw_val, vw_own0, isOwn, appL, viewA_nil, viewA_cons, vA_some, vA_none, after_nil, bindS, bindTg, Option.bind_some, List.map_cons, List.map_nil, List.cons_append, List.nil_append, List.set_cons_zero, List.set_cons_succ, List.getElem?_cons_zero, List.getElem?_cons_succ, List.length_cons, List.length_nil, List.isEmpty_nil, List.isEmpty_cons, ↓reduceIte, outR_nx, outR_ret, outR_err, Bool.not_true, Bool.not_false, Bool.false_and, Bool.true_and, Bool.and_true, Bool.and_false, Bool.or_true, Bool.true_or, Bool.false_or, Bool.or_false, Bool.false_eq_true, decide_true, decide_false, at0, at1, at2, at3, nabs, nabs_neg, ncast, beq_self_eq_true, List.replicate_succ, List.replicate_zero, Nat.reduceLT, Nat.reduceLeDiff, Nat.reduceLT, Nat.reduceAdd, Int.reduceLT, Int.reduceLE, Int.reduceNeg, Int.reduceEq, Int.reduceBEq, Int.reduceSub, Int.reduceAdd, Int.reduceMul, Int.reduceToNat, Nat.reduceSub, Nat.reduceMul, Nat.reduceEqDiff, lg, reduceCtorEq, Option.map_some, Option.map_none, f18]
  rw [cmpK_mp (g := fun r => .tup [.str (nmS r.1), .tup [.int r.2.1, .int r.2.2]]) fun r hr => ?_]
  · simp only [ev_var, ev_cst, ev_tup, ev_lst, ev_bin, ev_neg, ev_cmp, ev_chain, ev_isc, ev_and, ev_or, ev_not, ev_ifx, ev_ix, ev_slA, ev_slB, ev_slC, ev_call, ev_callv, ev_prim, ev_rng, ev_srs, ev_srl, ev_dnew, ev_rev, ev_comp, ev_compf, ev_comp2, evs_nil, evs_cons, sr_seq, sr_rg1, sr_rg2, sr_zip, sr_enum, ex_set, ex_unp, ex_par2, ex_par3, ex_drop, ex_app, ex_ext, ex_rem, ex_put, ex_ret, ex_retV, ex_retN, ex_pass, ex_ife, ex_forr, ex_whl, ex_raise, ex_try, exs_nil, exs_cons, andK_t, andK_f, orK_t, orK_f, ixK_t, ixK_f, chK_t, chK_f, cvK_fn, ifK_t, ifK_f, forK_n, varK_s, rvK_s, unpK_s, ownK_t, lenK_t, seqK_l, seqK_t, seqK_s, zipK_l, zipK_t, enuK_l, enuK_t, negK_i, iscK_t, iscK_f, tryO_nx, tryO_ret, bd_ok, bd_err, bd_bad, on_ok, on_err, on_bad, th_nx, th_ret, th_err, th_bad, boolR_ok, boolR_err, intR_ok, intR_err, noErr_ok, okIf_true, b_addI, b_subI, b_mulI, b_fdI, b_mdI, b_pwI, b_shI, c_lt, c_le, c_gt, c_ge, c_scr, c_eqI, c_neI, c_neB, c_eqB, x_lst, x_tup, x_dcs, c_inS, c_niS, c_ltS, p_dictL, p_dictT, p_lenL, p_lenT, p_lenS, p_minI, p_maxI, p_isi, p_tupL, p_tupT, p_lstL, p_lstT, p_intB, p_intI, tyD, isD, view_eq, viewF_nil, viewF_cons, vw_none, vw_val, vw_own0, isOwn, appL, viewA_nil, viewA_cons, vA_some, vA_none, after_nil, bindS, bindTg, Option.bind_some, List.map_cons, List.map_nil, List.cons_append, List.nil_append, List.set_cons_zero, List.set_cons_succ, List.getElem?_cons_zero, List.getElem?_cons_succ, List.length_cons, List.length_nil, List.isEmpty_nil, List.isEmpty_cons, ↓reduceIte, outR_nx, outR_ret, outR_err, Bool.not_true, Bool.not_false, Bool.false_and, Bool.true_and, Bool.and_true, Bool.and_false, Bool.or_true, Bool.true_or, Bool.false_or, Bool.or_false, Bool.false_eq_true, decide_true, decide_false, at0, at1, at2, at3, nabs, nabs_neg, ncast, beq_self_eq_true, List.replicate_succ, List.replicate_zero, Nat.reduceLT, Nat.reduceLeDiff, Nat.reduceLT, Nat.reduceAdd, Int.reduceLT, Int.reduceLE, Int.reduceNeg, Int.reduceEq, Int.reduceBEq, Int.reduceSub, Int.reduceAdd, Int.reduceMul, Int.reduceToNat, Nat.reduceSub, Nat.reduceMul, Nat.reduceEqDiff, lg, reduceCtorEq, Option.map_some, Option.map_none, dofBx h]
  · simp only [ev_var, ev_cst, ev_tup, ev_lst, ev_bin, ev_neg, ev_cmp, ev_chain, ev_isc, ev_and, ev_or, ev_not, ev_ifx, ev_ix, ev_slA, ev_slB, ev_slC, ev_call, ev_callv, ev_prim, ev_rng, ev_srs, ev_srl, ev_dnew, ev_rev, ev_comp, ev_compf, ev_comp2, evs_nil, evs_cons, sr_seq, sr_rg1, sr_rg2, sr_zip, sr_enum, ex_set, ex_unp, ex_par2, ex_par3, ex_drop, ex_app, ex_ext, ex_rem, ex_put, ex_ret, ex_retV, ex_retN, ex_pass, ex_ife, ex_forr, ex_whl, ex_raise, ex_try, exs_nil, exs_cons, andK_t, andK_f, orK_t, orK_f, ixK_t, ixK_f, chK_t, chK_f, cvK_fn, ifK_t, ifK_f, forK_n, varK_s, rvK_s, unpK_s, ownK_t, lenK_t, seqK_l, seqK_t, seqK_s, zipK_l, zipK_t, enuK_l, enuK_t, negK_i, iscK_t, iscK_f, tryO_nx, tryO_ret, bd_ok, bd_err, bd_bad, on_ok, on_err, on_bad, th_nx, th_ret, th_err, th_bad, boolR_ok, boolR_err, intR_ok, intR_err, noErr_ok, okIf_true, b_addI, b_subI, b_mulI, b_fdI, b_mdI, b_pwI, b_shI, c_lt, c_le, c_gt, c_ge, c_scr, c_eqI, c_neI, c_neB, c_eqB, x_lst, x_tup, x_dcs, c_inS, c_niS, c_ltS, p_dictL, p_dictT, p_lenL, p_lenT, p_lenS, p_minI, p_maxI, p_isi, p_tupL, p_tupT, p_lstL, p_lstT, p_intB, p_intI, tyD, isD, view_eq, viewF_nil, viewF_cons, vw_none, vw_val, vw_own0, isOwn, appL, viewA_nil, viewA_cons, vA_some, vA_none, after_nil, bindS, bindTg, Option.bind_some, List.map_cons, List.map_nil, List.cons_append, List.nil_append, List.set_cons_zero, List.set_cons_succ, List.getElem?_cons_zero, List.getElem?_cons_succ, List.length_cons, List.length_nil, List.isEmpty_nil, List.isEmpty_cons, ↓reduceIte, outR_nx, outR_ret, outR_err, Bool.not_true, Bool.not_false, Bool.false_and, Bool.true_and, Bool.and_true, Bool.and_false, Bool.or_true, Bool.true_or, Bool.false_or, Bool.or_false, Bool.false_eq_true, decide_true, decide_false, at0, at1, at2, at3, nabs, nabs_neg, ncast, beq_self_eq_true, List.replicate_succ, List.replicate_zero, Nat.reduceLT, Nat.reduceLeDiff, Nat.reduceLT, Nat.reduceAdd, Int.reduceLT, Int.reduceLE, Int.reduceNeg, Int.reduceEq, Int.reduceBEq, Int.reduceSub, Int.reduceAdd, Int.reduceMul, Int.reduceToNat, Nat.reduceSub, Nat.reduceMul, Nat.reduceEqDiff, lg, reduceCtorEq, Option.map_some, Option.map_none, cmpT, wipeE, rwB, sl1, List.drop_succ_cons, List.drop_zero]
theorem bd_of {bs : List (Nat × Int × Int)} {i : Nat} (hb : goodB bs) (h : i ∈ bs.map (·.1)) : bdR 1 (fnd (0, 0) bs i) := by
  obtain ⟨_, h1, h2, h3⟩ := hb.2.1 _ (fnd_mem (d := ((0 : Int), (0 : Int))) h)
  dsimp only at h1 h2 h3
  exact ⟨h2, by show _ ≤ 10000; omega, by show _ ≤ 10000; omega⟩
theorem roughRange (n : Nat) (x : X) (bs : List (Nat × Int × Int)) (hx : goodX x) (hb : goodB bs) (hn : ∀ i ∈ nmX x, i ∈ bs.map (·.1)) : call fs (n + 12) 19 [xD x, bxD bs] = .ok (pr (rgX (fnd (0, 0) bs) x), false) := by
  have q := findR (K := dcB bs) (k := fnd (0, 0) bs) x (n + 10) hx.1 (by have := hx.2; omega) hx.2 (fun i hi => bd_of hb (hn i hi)) fun i hi => ix_dcN (fun q : Int × Int => pr q) (0, 0) (hn i hi)
  rw [show n + 12 = n + 11 + 1 from rfl, cs19, runF_eq rfl]
  simp only [ev_var, ev_cst, ev_tup, ev_lst, ev_bin, ev_neg, ev_cmp, ev_chain, ev_isc, ev_and, ev_or, ev_not, ev_ifx, ev_ix, ev_slA, ev_slB, ev_slC, ev_call, ev_callv, ev_prim, ev_rng, ev_srs, ev_srl, ev_dnew, ev_rev, ev_comp, ev_compf, ev_comp2, evs_nil, evs_cons, sr_seq, sr_rg1, sr_rg2, sr_zip, sr_enum, ex_set, ex_unp, ex_par2, ex_par3, ex_drop, ex_app, ex_ext, ex_rem, ex_put, ex_ret, ex_retV, ex_retN, ex_pass, ex_ife, ex_forr, ex_whl, ex_raise, ex_try, exs_nil, exs_cons, andK_t, andK_f, orK_t, orK_f, ixK_t, ixK_f, chK_t, chK_f, cvK_fn, ifK_t, ifK_f, forK_n, varK_s, rvK_s, unpK_s, ownK_t, lenK_t, seqK_l, seqK_t, seqK_s, zipK_l, zipK_t, enuK_l, enuK_t, negK_i, iscK_t, iscK_f, tryO_nx, tryO_ret, bd_ok, bd_err, bd_bad, on_ok, on_err, on_bad, th_nx, th_ret, th_err, th_bad, boolR_ok, boolR_err, intR_ok, intR_err, noErr_ok, okIf_true, b_addI, b_subI, b_mulI, b_fdI, b_mdI, b_pwI, b_shI, c_lt, c_le, c_gt, c_ge, c_scr, c_eqI, c_neI, c_neB, c_eqB, x_lst, x_tup, x_dcs, c_inS, c_niS, c_ltS, p_dictL, p_dictT, p_lenL, p_lenT, p_lenS, p_minI, p_maxI, p_isi, p_tupL, p_tupT, p_lstL, p_lstT, p_intB, p_intI, tyD, isD, view_eq, viewF_nil, viewF_cons, vw_none, vw_val, vw_own0, isOwn, appL, viewA_nil, viewA_cons, vA_some, vA_none, after_nil, bindS, bindTg, Option.bind_some, List.map_cons, List.map_nil, List.cons_append, List.nil_append, List.set_cons_zero, List.set_cons_succ, List.getElem?_cons_zero, List.getElem?_cons_succ, List.length_cons, List.length_nil, List.isEmpty_nil, List.isEmpty_cons, ↓reduceIte, outR_nx, outR_ret, outR_err, Bool.not_true, Bool.not_false, Bool.false_and, Bool.true_and, Bool.and_true, Bool.and_false, Bool.or_true, Bool.true_or, Bool.false_or, Bool.or_false, Bool.false_eq_true, decide_true, decide_false, at0, at1, at2, at3, nabs, nabs_neg, ncast, beq_self_eq_true, List.replicate_succ, List.replicate_zero, Nat.reduceLT, Nat.reduceLeDiff, Nat.reduceLT, Nat.reduceAdd, Int.reduceLT, Int.reduceLE, Int.reduceNeg, Int.reduceEq, Int.reduceBEq, Int.reduceSub, Int.reduceAdd, Int.reduceMul, Int.reduceToNat, Nat.reduceSub, Nat.reduceMul, Nat.reduceEqDiff, lg, reduceCtorEq, Option.map_some, Option.map_none, f19, chkX n x hx, chkB (n + 2) x bs hb hx.2 hn, rangesOf (n + 10) bs hb.2.2, q]

/-! the laws' picks -/
theorem pickLoop (C : Orc) (x0 x1 x2 x3 x6 : Option (Bool × D)) : ∀ (t F : Nat) (rest : Int), t < F → ∃ (r' t' : Int),
    whS C (.and (.cmp .gt (.var 4) (.cst (.int (0)))) (.cmp .gt (.var 5) (.cst (.int (0))))) (.cons (.par2 7 4 5 false false (.bin .fdiv (.var 4) (.cst (.int (840)))) (.bin .sub (.var 5) (.cst (.int (1)))) [])
    .nil) F [x0, x1, x2, x3, some (false, .int rest), some (false, .int t), x6] = .nx [x0, x1, x2, x3, some (false, .int r'), some (false, .int t'), x6]
  | t, 0, rest, h => absurd h (Nat.not_lt_zero _)
  | t, F + 1, rest, h => by
    rw [whS_succ]
    by_cases h1 : 0 < rest
    · by_cases h2 : (0 : Int) < t
      · simp only [ev_var, ev_cst, ev_tup, ev_lst, ev_bin, ev_neg, ev_cmp, ev_chain, ev_isc, ev_and, ev_or, ev_not, ev_ifx, ev_ix, ev_slA, ev_slB, ev_slC, ev_call, ev_callv, ev_prim, ev_rng, ev_srs, ev_srl, ev_dnew, ev_rev, ev_comp, ev_compf, ev_comp2, evs_nil, evs_cons, sr_seq, sr_rg1, sr_rg2, sr_zip, sr_enum, ex_set, ex_unp, ex_par2, ex_par3, ex_drop, ex_app, ex_ext, ex_rem, ex_put, ex_ret, ex_retV, ex_retN, ex_pass, ex_ife, ex_forr, ex_whl, ex_raise, ex_try, exs_nil, exs_cons, andK_t, andK_f, orK_t, orK_f, ixK_t, ixK_f, chK_t, chK_f, cvK_fn, ifK_t, ifK_f, forK_n, varK_s, rvK_s, unpK_s, ownK_t, lenK_t, seqK_l, seqK_t, seqK_s, zipK_l, zipK_t, enuK_l, enuK_t, negK_i, iscK_t, iscK_f, tryO_nx, tryO_ret, bd_ok, bd_err, bd_bad, on_ok, on_err, on_bad, th_nx, th_ret, th_err, th_bad, boolR_ok, boolR_err, intR_ok, intR_err, noErr_ok, okIf_true, b_addI, b_subI, b_mulI, b_fdI, b_mdI, b_pwI, b_shI, c_lt, c_le, c_gt, c_ge, c_scr, c_eqI, c_neI, c_neB, c_eqB, x_lst, x_tup, x_dcs, c_inS, c_niS, c_ltS, p_dictL, p_dictT, p_lenL, p_lenT, p_lenS, p_minI, p_maxI, p_isi, p_tupL, p_tupT, p_lstL, p_lstT, p_intB, p_intI, tyD, isD, view_eq, viewF_nil, viewF_cons, vw_none, vw_val, vw_own0, isOwn, appL, viewA_nil, viewA_cons, vA_some, vA_none, after_nil, bindS, bindTg, Option.bind_some, List.map_cons, List.map_nil, List.cons_append, List.nil_append, List.set_cons_zero, List.set_cons_succ, List.getElem?_cons_zero, List.getElem?_cons_succ, List.length_cons, List.length_nil, List.isEmpty_nil, List.isEmpty_cons, ↓reduceIte, outR_nx, outR_ret, outR_err, Bool.not_true, Bool.not_false, Bool.false_and, Bool.true_and, Bool.and_true, Bool.and_false, Bool.or_true, Bool.true_or, Bool.false_or, Bool.or_false, Bool.false_eq_true, decide_true, decide_false, at0, at1, at2, at3, nabs, nabs_neg, ncast, beq_self_eq_true, List.replicate_succ, List.replicate_zero, Nat.reduceLT, Nat.reduceLeDiff, Nat.reduceLT, Nat.reduceAdd, Int.reduceLT, Int.reduceLE, Int.reduceNeg, Int.reduceEq, Int.reduceBEq, Int.reduceSub, Int.reduceAdd, Int.reduceMul, Int.reduceToNat, Nat.reduceSub, Nat.reduceMul, Nat.reduceEqDiff, lg, reduceCtorEq, Option.map_some, Option.map_none, h1, h2]
        obtain ⟨t', rfl⟩ : ∃ t', t = t' + 1 := ⟨t - 1, by omega⟩
        have e : ((t' + 1 : Nat) : Int) - 1 = (t' : Int) := by omega
        rw [e]
        exact pickLoop C x0 x1 x2 x3 x6 t' F (rest / 840) (by omega)
      · simp only [ev_var, ev_cst, ev_tup, ev_lst, ev_bin, ev_neg, ev_cmp, ev_chain, ev_isc, ev_and, ev_or, ev_not, ev_ifx, ev_ix, ev_slA, ev_slB, ev_slC, ev_call, ev_callv, ev_prim, ev_rng, ev_srs, ev_srl, ev_dnew, ev_rev, ev_comp, ev_compf, ev_comp2, evs_nil, evs_cons, sr_seq, sr_rg1, sr_rg2, sr_zip, sr_enum, ex_set, ex_unp, ex_par2, ex_par3, ex_drop, ex_app, ex_ext, ex_rem, ex_put, ex_ret, ex_retV, ex_retN, ex_pass, ex_ife, ex_forr, ex_whl, ex_raise, ex_try, exs_nil, exs_cons, andK_t, andK_f, orK_t, orK_f, ixK_t, ixK_f, chK_t, chK_f, cvK_fn, ifK_t, ifK_f, forK_n, varK_s, rvK_s, unpK_s, ownK_t, lenK_t, seqK_l, seqK_t, seqK_s, zipK_l, zipK_t, enuK_l, enuK_t, negK_i, iscK_t, iscK_f, tryO_nx, tryO_ret, bd_ok, bd_err, bd_bad, on_ok, on_err, on_bad, th_nx, th_ret, th_err, th_bad, boolR_ok, boolR_err, intR_ok, intR_err, noErr_ok, okIf_true, b_addI, b_subI, b_mulI, b_fdI, b_mdI, b_pwI, b_shI, c_lt, c_le, c_gt, c_ge, c_scr, c_eqI, c_neI, c_neB, c_eqB, x_lst, x_tup, x_dcs, c_inS, c_niS, c_ltS, p_dictL, p_dictT, p_lenL, p_lenT, p_lenS, p_minI, p_maxI, p_isi, p_tupL, p_tupT, p_lstL, p_lstT, p_intB, p_intI, tyD, isD, view_eq, viewF_nil, viewF_cons, vw_none, vw_val, vw_own0, isOwn, appL, viewA_nil, viewA_cons, vA_some, vA_none, after_nil, bindS, bindTg, Option.bind_some, List.map_cons, List.map_nil, List.cons_append, List.nil_append, List.set_cons_zero, List.set_cons_succ, List.getElem?_cons_zero, List.getElem?_cons_succ, List.length_cons, List.length_nil, List.isEmpty_nil, List.isEmpty_cons, ↓reduceIte, outR_nx, outR_ret, outR_err, Bool.not_true, Bool.not_false, Bool.false_and, Bool.true_and, Bool.and_true, Bool.and_false, Bool.or_true, Bool.true_or, Bool.false_or, Bool.or_false, Bool.false_eq_true, decide_true, decide_false, at0, at1, at2, at3, nabs, nabs_neg, ncast, beq_self_eq_true, List.replicate_succ, List.replicate_zero, Nat.reduceLT, Nat.reduceLeDiff, Nat.reduceLT, Nat.reduceAdd, Int.reduceLT, Int.reduceLE, Int.reduceNeg, Int.reduceEq, Int.reduceBEq, Int.reduceSub, Int.reduceAdd, Int.reduceMul, Int.reduceToNat, Nat.reduceSub, Nat.reduceMul, Nat.reduceEqDiff, lg, reduceCtorEq, Option.map_some, Option.map_none, h1, h2]
        exact ⟨rest, t, rfl⟩
    · simp only [ev_var, ev_cst, ev_tup, ev_lst, ev_bin, ev_neg, ev_cmp, ev_chain, ev_isc, ev_and, ev_or, ev_not, ev_ifx, ev_ix, ev_slA, ev_slB, ev_slC, ev_call, ev_callv, ev_prim, ev_rng, ev_srs, ev_srl, ev_dnew, ev_rev, ev_comp, ev_compf, ev_comp2, evs_nil, evs_cons, sr_seq, sr_rg1, sr_rg2, sr_zip, sr_enum, ex_set, ex_unp, ex_par2, ex_par3, ex_drop, ex_app, ex_ext, ex_rem, ex_put, ex_ret, ex_retV, ex_retN, ex_pass, ex_ife, ex_forr, ex_whl, ex_raise, ex_try, exs_nil, exs_cons, andK_t, andK_f, orK_t, orK_f, ixK_t, ixK_f, chK_t, chK_f, cvK_fn, ifK_t, ifK_f, forK_n, varK_s, rvK_s, unpK_s, ownK_t, lenK_t, seqK_l, seqK_t, seqK_s, zipK_l, zipK_t, enuK_l, enuK_t, negK_i, iscK_t, iscK_f, tryO_nx, tryO_ret, bd_ok, bd_err, bd_bad, on_ok, on_err, on_bad, th_nx, th_ret, th_err, th_bad, boolR_ok, boolR_err, intR_ok, intR_err, noErr_ok, okIf_true, b_addI, b_subI, b_mulI, b_fdI, b_mdI, b_pwI, b_shI, c_lt, c_le, c_gt, c_ge, c_scr, c_eqI, c_neI, c_neB, c_eqB, x_lst, x_tup, x_dcs, c_inS, c_niS, c_ltS, p_dictL, p_dictT, p_lenL, p_lenT, p_lenS, p_minI, p_maxI, p_isi, p_tupL, p_tupT, p_lstL, p_lstT, p_intB, p_intI, tyD, isD, view_eq, viewF_nil, viewF_cons, vw_none, vw_val, vw_own0, isOwn, appL, viewA_nil, viewA_cons, vA_some, vA_none, after_nil, bindS, bindTg, Option.bind_some, List.map_cons, List.map_nil, List.cons_append, List.nil_append, List.set_cons_zero, List.set_cons_succ, List.getElem?_cons_zero, List.getElem?_cons_succ, List.length_cons, List.length_nil, List.isEmpty_nil, List.isEmpty_cons, ↓reduceIte, outR_nx, outR_ret, outR_err, Bool.not_true, Bool.not_false, Bool.false_and, Bool.true_and, Bool.and_true, Bool.and_false, Bool.or_true, Bool.true_or, Bool.false_or, Bool.or_false, Bool.false_eq_true, decide_true, decide_false, at0, at1, at2, at3, nabs, nabs_neg, ncast, beq_self_eq_true, List.replicate_succ, List.replicate_zero, Nat.reduceLT, Nat.reduceLeDiff, Nat.reduceLT, Nat.reduceAdd, Int.reduceLT, Int.reduceLE, Int.reduceNeg, Int.reduceEq, Int.reduceBEq, Int.reduceSub, Int.reduceAdd, Int.reduceMul, Int.reduceToNat, Nat.reduceSub, Nat.reduceMul, Nat.reduceEqDiff, lg, reduceCtorEq, Option.map_some, Option.map_none, h1]
      exact ⟨rest, t, rfl⟩
theorem lawPick (ns : List Int) (hl : ns.length ≤ 63) (n : Nat) (k m : Int) (hk : 0 ≤ k) (hk2 : k ≤ 90000) (hm : 0 < m) : ∃ r, 0 ≤ r ∧ r < m ∧ call fs (n + 1) 20 [.scr ns, .int k, .int m] = .ok (.int r, false) := by
  have hm' := decide_eq_true hm
  have e18 : ((10 : Int) ^ 18) = 1000000000000000000 := by decide
  have c10 : (1 : Int) > 0 := by decide
  have tl : ∀ y : Int, decide ((y * 40692 % 2147483399).natAbs < 18446744073709551616) = true := fun y => by
    have d1 := Int.emod_nonneg (y * 40692) (show (2147483399 : Int) ≠ 0 by decide)
    have d2 := Int.emod_lt_of_pos (y * 40692) (show (0 : Int) < 2147483399 by decide)
    exact decide_eq_true (by omega)
  rw [cs20, runF_eq rfl]
  by_cases he : ns = []
  · subst he
    refine ⟨((0 + 6151 * (k + 1)) * 40692 % 2147483399 * ((0 + 6151 * (k + 1)) * 40692 % 2147483399) + (0 + 6151 * (k + 1)) * 40692 % 2147483399 / 31) % 2147483629 % m, Int.emod_nonneg _ (by omega), Int.emod_lt_of_pos _ hm, ?_⟩
    have z0 : (0 : Int) / 1000000000000000000 = 0 := by decide
    have wf : whFuel = 99999 + 1 := rfl
    simp only [ev_var, ev_cst, ev_tup, ev_lst, ev_bin, ev_neg, ev_cmp, ev_chain, ev_isc, ev_and, ev_or, ev_not, ev_ifx, ev_ix, ev_slA, ev_slB, ev_slC, ev_call, ev_callv, ev_prim, ev_rng, ev_srs, ev_srl, ev_dnew, ev_rev, ev_comp, ev_compf, ev_comp2, evs_nil, evs_cons, sr_seq, sr_rg1, sr_rg2, sr_zip, sr_enum, ex_set, ex_unp, ex_par2, ex_par3, ex_drop, ex_app, ex_ext, ex_rem, ex_put, ex_ret, ex_retV, ex_retN, ex_pass, ex_ife, ex_forr, ex_whl, ex_raise, ex_try, exs_nil, exs_cons, andK_t, andK_f, orK_t, orK_f, ixK_t, ixK_f, chK_t, chK_f, cvK_fn, ifK_t, ifK_f, forK_n, varK_s, rvK_s, unpK_s, ownK_t, lenK_t, seqK_l, seqK_t, seqK_s, zipK_l, zipK_t, enuK_l, enuK_t, negK_i, iscK_t, iscK_f, tryO_nx, tryO_ret, bd_ok, bd_err, bd_bad, on_ok, on_err, on_bad, th_nx, th_ret, th_err, th_bad, boolR_ok, boolR_err, intR_ok, intR_err, noErr_ok, okIf_true, b_addI, b_subI, b_mulI, b_fdI, b_mdI, b_pwI, b_shI, c_lt, c_le, c_gt, c_ge, c_scr, c_eqI, c_neI, c_neB, c_eqB, x_lst, x_tup, x_dcs, c_inS, c_niS, c_ltS, p_dictL, p_dictT, p_lenL, p_lenT, p_lenS, p_minI, p_maxI, p_isi, p_tupL, p_tupT, p_lstL, p_lstT, p_intB, p_intI, tyD, isD, view_eq, viewF_nil, viewF_cons, vw_none, vw_val, vw_own0, isOwn, appL, viewA_nil, viewA_cons, vA_some, vA_none, after_nil, bindS, bindTg, Option.bind_some, List.map_cons, List.map_nil, List.cons_append, List.nil_append, List.set_cons_zero, List.set_cons_succ, List.getElem?_cons_zero, List.getElem?_cons_succ, List.length_cons, List.length_nil, List.isEmpty_nil, List.isEmpty_cons, ↓reduceIte, outR_nx, outR_ret, outR_err, Bool.not_true, Bool.not_false, Bool.false_and, Bool.true_and, Bool.and_true, Bool.and_false, Bool.or_true, Bool.true_or, Bool.false_or, Bool.or_false, Bool.false_eq_true, decide_true, decide_false, at0, at1, at2, at3, nabs, nabs_neg, ncast, beq_self_eq_true, List.replicate_succ, List.replicate_zero, Nat.reduceLT, Nat.reduceLeDiff, Nat.reduceLT, Nat.reduceAdd, Int.reduceLT, Int.reduceLE, Int.reduceNeg, Int.reduceEq, Int.reduceBEq, Int.reduceSub, Int.reduceAdd, Int.reduceMul, Int.reduceToNat, Nat.reduceSub, Nat.reduceMul, Nat.reduceEqDiff, lg, reduceCtorEq, Option.map_some, Option.map_none, f20, e18, c10, z0]
    rw [wf, whS_succ]
    simp only [ev_var, ev_cst, ev_tup, ev_lst, ev_bin, ev_neg, ev_cmp, ev_chain, ev_isc, ev_and, ev_or, ev_not, ev_ifx, ev_ix, ev_slA, ev_slB, ev_slC, ev_call, ev_callv, ev_prim, ev_rng, ev_srs, ev_srl, ev_dnew, ev_rev, ev_comp, ev_compf, ev_comp2, evs_nil, evs_cons, sr_seq, sr_rg1, sr_rg2, sr_zip, sr_enum, ex_set, ex_unp, ex_par2, ex_par3, ex_drop, ex_app, ex_ext, ex_rem, ex_put, ex_ret, ex_retV, ex_retN, ex_pass, ex_ife, ex_forr, ex_whl, ex_raise, ex_try, exs_nil, exs_cons, andK_t, andK_f, orK_t, orK_f, ixK_t, ixK_f, chK_t, chK_f, cvK_fn, ifK_t, ifK_f, forK_n, varK_s, rvK_s, unpK_s, ownK_t, lenK_t, seqK_l, seqK_t, seqK_s, zipK_l, zipK_t, enuK_l, enuK_t, negK_i, iscK_t, iscK_f, tryO_nx, tryO_ret, bd_ok, bd_err, bd_bad, on_ok, on_err, on_bad, th_nx, th_ret, th_err, th_bad, boolR_ok, boolR_err, intR_ok, intR_err, noErr_ok, okIf_true, b_addI, b_subI, b_mulI, b_fdI, b_mdI, b_pwI, b_shI, c_lt, c_le, c_gt, c_ge, c_scr, c_eqI, c_neI, c_neB, c_eqB, x_lst, x_tup, x_dcs, c_inS, c_niS, c_ltS, p_dictL, p_dictT, p_lenL, p_lenT, p_lenS, p_minI, p_maxI, p_isi, p_tupL, p_tupT, p_lstL, p_lstT, p_intB, p_intI, tyD, isD, view_eq, viewF_nil, viewF_cons, vw_none, vw_val, vw_own0, isOwn, appL, viewA_nil, viewA_cons, vA_some, vA_none, after_nil, bindS, bindTg, Option.bind_some, List.map_cons, List.map_nil, List.cons_append, List.nil_append, List.set_cons_zero, List.set_cons_succ, List.getElem?_cons_zero, List.getElem?_cons_succ, List.length_cons, List.length_nil, List.isEmpty_nil, List.isEmpty_cons, ↓reduceIte, outR_nx, outR_ret, outR_err, Bool.not_true, Bool.not_false, Bool.false_and, Bool.true_and, Bool.and_true, Bool.and_false, Bool.or_true, Bool.true_or, Bool.false_or, Bool.or_false, Bool.false_eq_true, decide_true, decide_false, at0, at1, at2, at3, nabs, nabs_neg, ncast, beq_self_eq_true, List.replicate_succ, List.replicate_zero, Nat.reduceLT, Nat.reduceLeDiff, Nat.reduceLT, Nat.reduceAdd, Int.reduceLT, Int.reduceLE, Int.reduceNeg, Int.reduceEq, Int.reduceBEq, Int.reduceSub, Int.reduceAdd, Int.reduceMul, Int.reduceToNat, Nat.reduceSub, Nat.reduceMul, Nat.reduceEqDiff, lg, reduceCtorEq, Option.map_some, Option.map_none, tl, hm']
  · have hL : (0 : Int) < ns.length := by
      have := List.length_pos_iff.mpr he
      omega
    have hE : ns.isEmpty = false := by
      cases ns with
      | nil => exact absurd rfl he
      | cons _ _ => rfl
    obtain ⟨z, hz⟩ : ∃ z, atI ns (k % ns.length) = some z := by
      have a1 := Int.emod_nonneg k (show (ns.length : Int) ≠ 0 by omega)
      have a2 := Int.emod_lt_of_pos k hL
      obtain ⟨j, hj⟩ := Int.eq_ofNat_of_zero_le a1
      rw [hj] at a2 ⊢
      have hj' : j < ns.length := by omega
      exact ⟨ns[j], SS.atI_nat (List.getElem?_eq_getElem hj')⟩
    have hx : ixD (.scr ns) (.int (k % ns.length)) = .ok (.int z, false) := by rw [x_scr, hz]
    have hg : decide ((ns.length : Int).natAbs.log2 < 9000) = true := lg _ (by rw [Int.natAbs_natCast]; omega)
    have c1 : ¬ (1 : Int) > ns.length := by omega
    simp only [ev_var, ev_cst, ev_tup, ev_lst, ev_bin, ev_neg, ev_cmp, ev_chain, ev_isc, ev_and, ev_or, ev_not, ev_ifx, ev_ix, ev_slA, ev_slB, ev_slC, ev_call, ev_callv, ev_prim, ev_rng, ev_srs, ev_srl, ev_dnew, ev_rev, ev_comp, ev_compf, ev_comp2, evs_nil, evs_cons, sr_seq, sr_rg1, sr_rg2, sr_zip, sr_enum, ex_set, ex_unp, ex_par2, ex_par3, ex_drop, ex_app, ex_ext, ex_rem, ex_put, ex_ret, ex_retV, ex_retN, ex_pass, ex_ife, ex_forr, ex_whl, ex_raise, ex_try, exs_nil, exs_cons, andK_t, andK_f, orK_t, orK_f, ixK_t, ixK_f, chK_t, chK_f, cvK_fn, ifK_t, ifK_f, forK_n, varK_s, rvK_s, unpK_s, ownK_t, lenK_t, seqK_l, seqK_t, seqK_s, zipK_l, zipK_t, enuK_l, enuK_t, negK_i, iscK_t, iscK_f, tryO_nx, tryO_ret, bd_ok, bd_err, bd_bad, on_ok, on_err, on_bad, th_nx, th_ret, th_err, th_bad, boolR_ok, boolR_err, intR_ok, intR_err, noErr_ok, okIf_true, b_addI, b_subI, b_mulI, b_fdI, b_mdI, b_pwI, b_shI, c_lt, c_le, c_gt, c_ge, c_scr, c_eqI, c_neI, c_neB, c_eqB, x_lst, x_tup, x_dcs, c_inS, c_niS, c_ltS, p_dictL, p_dictT, p_lenL, p_lenT, p_lenS, p_minI, p_maxI, p_isi, p_tupL, p_tupT, p_lstL, p_lstT, p_intB, p_intI, tyD, isD, view_eq, viewF_nil, viewF_cons, vw_none, vw_val, vw_own0, isOwn, appL, viewA_nil, viewA_cons, vA_some, vA_none, after_nil, bindS, bindTg, Option.bind_some, List.map_cons, List.map_nil, List.cons_append, List.nil_append, List.set_cons_zero, List.set_cons_succ, List.getElem?_cons_zero, List.getElem?_cons_succ, List.length_cons, List.length_nil, List.isEmpty_nil, List.isEmpty_cons, ↓reduceIte, outR_nx, outR_ret, outR_err, Bool.not_true, Bool.not_false, Bool.false_and, Bool.true_and, Bool.and_true, Bool.and_false, Bool.or_true, Bool.true_or, Bool.false_or, Bool.or_false, Bool.false_eq_true, decide_true, decide_false, at0, at1, at2, at3, nabs, nabs_neg, ncast, beq_self_eq_true, List.replicate_succ, List.replicate_zero, Nat.reduceLT, Nat.reduceLeDiff, Nat.reduceLT, Nat.reduceAdd, Int.reduceLT, Int.reduceLE, Int.reduceNeg, Int.reduceEq, Int.reduceBEq, Int.reduceSub, Int.reduceAdd, Int.reduceMul, Int.reduceToNat, Nat.reduceSub, Nat.reduceMul, Nat.reduceEqDiff, lg, reduceCtorEq, Option.map_some, Option.map_none, f20, hE, hL, hx, hg, c1, e18]
    obtain ⟨t, ht⟩ := Int.eq_ofNat_of_zero_le (Int.ediv_nonneg hk (Int.le_of_lt hL))
    have ht2 : (t : Int) ≤ k := by rw [← ht]; exact Int.ediv_le_self _ hk
    rw [ht]
    obtain ⟨r', t', hw⟩ := pickLoop (call fs n) (some (false, .scr ns)) (some (false, .int k)) (some (false, .int m)) (some (false, .int z)) none t whFuel (z / 1000000000000000000) (by unfold whFuel; omega)
    rw [hw]
    by_cases h3 : 0 < r'
    · simp only [ev_var, ev_cst, ev_tup, ev_lst, ev_bin, ev_neg, ev_cmp, ev_chain, ev_isc, ev_and, ev_or, ev_not, ev_ifx, ev_ix, ev_slA, ev_slB, ev_slC, ev_call, ev_callv, ev_prim, ev_rng, ev_srs, ev_srl, ev_dnew, ev_rev, ev_comp, ev_compf, ev_comp2, evs_nil, evs_cons, sr_seq, sr_rg1, sr_rg2, sr_zip, sr_enum, ex_set, ex_unp, ex_par2, ex_par3, ex_drop, ex_app, ex_ext, ex_rem, ex_put, ex_ret, ex_retV, ex_retN, ex_pass, ex_ife, ex_forr, ex_whl, ex_raise, ex_try, exs_nil, exs_cons, andK_t, andK_f, orK_t, orK_f, ixK_t, ixK_f, chK_t, chK_f, cvK_fn, ifK_t, ifK_f, forK_n, varK_s, rvK_s, unpK_s, ownK_t, lenK_t, seqK_l, seqK_t, seqK_s, zipK_l, zipK_t, enuK_l, enuK_t, negK_i, iscK_t, iscK_f, tryO_nx, tryO_ret, bd_ok, bd_err, bd_bad, on_ok, on_err, on_bad, th_nx, th_ret, th_err, th_bad, boolR_ok, boolR_err, intR_ok, intR_err, noErr_ok, okIf_true, b_addI, b_subI, b_mulI, b_fdI, b_mdI, b_pwI, b_shI, c_lt, c_le, c_gt, c_ge, c_scr, c_eqI, c_neI, c_neB, c_eqB, x_lst, x_tup, x_dcs, c_inS, c_niS, c_ltS, p_dictL, p_dictT, p_lenL, p_lenT, p_lenS, p_minI, p_maxI, p_isi, p_tupL, p_tupT, p_lstL, p_lstT, p_intB, p_intI, tyD, isD, view_eq, viewF_nil, viewF_cons, vw_none, vw_val, vw_own0, isOwn, appL, viewA_nil, viewA_cons, vA_some, vA_none, after_nil, bindS, bindTg, Option.bind_some, List.map_cons, List.map_nil, List.cons_append, List.nil_append, List.set_cons_zero, List.set_cons_succ, List.getElem?_cons_zero, List.getElem?_cons_succ, List.length_cons, List.length_nil, List.isEmpty_nil, List.isEmpty_cons, ↓reduceIte, outR_nx, outR_ret, outR_err, Bool.not_true, Bool.not_false, Bool.false_and, Bool.true_and, Bool.and_true, Bool.and_false, Bool.or_true, Bool.true_or, Bool.false_or, Bool.or_false, Bool.false_eq_true, decide_true, decide_false, at0, at1, at2, at3, nabs, nabs_neg, ncast, beq_self_eq_true, List.replicate_succ, List.replicate_zero, Nat.reduceLT, Nat.reduceLeDiff, Nat.reduceLT, Nat.reduceAdd, Int.reduceLT, Int.reduceLE, Int.reduceNeg, Int.reduceEq, Int.reduceBEq, Int.reduceSub, Int.reduceAdd, Int.reduceMul, Int.reduceToNat, Nat.reduceSub, Nat.reduceMul, Nat.reduceEqDiff, lg, reduceCtorEq, Option.map_some, Option.map_none, h3, hm']
      exact ⟨_, Int.emod_nonneg _ (by omega), Int.emod_lt_of_pos _ hm, rfl⟩
    · simp only [ev_var, ev_cst, ev_tup, ev_lst, ev_bin, ev_neg, ev_cmp, ev_chain, ev_isc, ev_and, ev_or, ev_not, ev_ifx, ev_ix, ev_slA, ev_slB, ev_slC, ev_call, ev_callv, ev_prim, ev_rng, ev_srs, ev_srl, ev_dnew, ev_rev, ev_comp, ev_compf, ev_comp2, evs_nil, evs_cons, sr_seq, sr_rg1, sr_rg2, sr_zip, sr_enum, ex_set, ex_unp, ex_par2, ex_par3, ex_drop, ex_app, ex_ext, ex_rem, ex_put, ex_ret, ex_retV, ex_retN, ex_pass, ex_ife, ex_forr, ex_whl, ex_raise, ex_try, exs_nil, exs_cons, andK_t, andK_f, orK_t, orK_f, ixK_t, ixK_f, chK_t, chK_f, cvK_fn, ifK_t, ifK_f, forK_n, varK_s, rvK_s, unpK_s, ownK_t, lenK_t, seqK_l, seqK_t, seqK_s, zipK_l, zipK_t, enuK_l, enuK_t, negK_i, iscK_t, iscK_f, tryO_nx, tryO_ret, bd_ok, bd_err, bd_bad, on_ok, on_err, on_bad, th_nx, th_ret, th_err, th_bad, boolR_ok, boolR_err, intR_ok, intR_err, noErr_ok, okIf_true, b_addI, b_subI, b_mulI, b_fdI, b_mdI, b_pwI, b_shI, c_lt, c_le, c_gt, c_ge, c_scr, c_eqI, c_neI, c_neB, c_eqB, x_lst, x_tup, x_dcs, c_inS, c_niS, c_ltS, p_dictL, p_dictT, p_lenL, p_lenT, p_lenS, p_minI, p_maxI, p_isi, p_tupL, p_tupT, p_lstL, p_lstT, p_intB, p_intI, tyD, isD, view_eq, viewF_nil, viewF_cons, vw_none, vw_val, vw_own0, isOwn, appL, viewA_nil, viewA_cons, vA_some, vA_none, after_nil, bindS, bindTg, Option.bind_some, List.map_cons, List.map_nil, List.cons_append, List.nil_append, List.set_cons_zero, List.set_cons_succ, List.getElem?_cons_zero, List.getElem?_cons_succ, List.length_cons, List.length_nil, List.isEmpty_nil, List.isEmpty_cons, ↓reduceIte, outR_nx, outR_ret, outR_err, Bool.not_true, Bool.not_false, Bool.false_and, Bool.true_and, Bool.and_true, Bool.and_false, Bool.or_true, Bool.true_or, Bool.false_or, Bool.or_false, Bool.false_eq_true, decide_true, decide_false, at0, at1, at2, at3, nabs, nabs_neg, ncast, beq_self_eq_true, List.replicate_succ, List.replicate_zero, Nat.reduceLT, Nat.reduceLeDiff, Nat.reduceLT, Nat.reduceAdd, Int.reduceLT, Int.reduceLE, Int.reduceNeg, Int.reduceEq, Int.reduceBEq, Int.reduceSub, Int.reduceAdd, Int.reduceMul, Int.reduceToNat, Nat.reduceSub, Nat.reduceMul, Nat.reduceEqDiff, lg, reduceCtorEq, Option.map_some, Option.map_none, h3, tl, hm']
      exact ⟨_, Int.emod_nonneg _ (by omega), Int.emod_lt_of_pos _ hm, rfl⟩

/-! the law's expressions and boxes -/
theorem seven {r : Int} (h1 : 0 ≤ r) (h2 : r < 7) : ∃ y, atD [.int 0, .int 1, .int (-1), .int 2, .int 3, .int (-5), .int 7] r = .ok (.int y, false) ∧ -7 ≤ y ∧ y ≤ 7 := by
  have : r = 0 ∨ r = 1 ∨ r = 2 ∨ r = 3 ∨ r = 4 ∨ r = 5 ∨ r = 6 := by omega
  rcases this with rfl | rfl | rfl | rfl | rfl | rfl | rfl
  · exact ⟨_, at0 _ _, by omega, by omega⟩
  · exact ⟨_, at1 _ _ _, by omega, by omega⟩
  · exact ⟨_, at2 _ _ _ _, by omega, by omega⟩
  · exact ⟨_, at3 _ _ _ _ _, by omega, by omega⟩
  · exact ⟨3, atD_nat (n := 4) rfl, by omega, by omega⟩
  · exact ⟨-5, atD_nat (n := 5) rfl, by omega, by omega⟩
  · exact ⟨7, atD_nat (n := 6) rfl, by omega, by omega⟩
theorem abcd {r : Int} (h1 : 0 ≤ r) (h2 : r < 4) : ∃ i : Nat, (i : Int) = r ∧ i < 4 ∧ ixD (.str "abcd") (.int r) = .ok (.str (nmS i), false) := by
  have : r = 0 ∨ r = 1 ∨ r = 2 ∨ r = 3 := by omega
  rcases this with rfl | rfl | rfl | rfl
  · exact ⟨0, rfl, by omega, rfl⟩
  · exact ⟨1, rfl, by omega, rfl⟩
  · exact ⟨2, rfl, by omega, rfl⟩
  · exact ⟨3, rfl, by omega, rfl⟩
theorem signs {r : Int} (h1 : 0 ≤ r) (h2 : r < 5) : ∃ o : Op, ixD (.str "+-*+-") (.int r) = .ok (.str (sg o), false) := by
  have : r = 0 ∨ r = 1 ∨ r = 2 ∨ r = 3 ∨ r = 4 := by omega
  rcases this with rfl | rfl | rfl | rfl | rfl
  · exact ⟨.add, rfl⟩
  · exact ⟨.sub, rfl⟩
  · exact ⟨.mul, rfl⟩
  · exact ⟨.add, rfl⟩
  · exact ⟨.sub, rfl⟩
section
variable (ns : List Int) (hl : ns.length ≤ 63)
include hl
theorem lawLeaf (n : Nat) (k : Int) (hk : 0 ≤ k) (hk2 : k ≤ 80000) : ∃ x, okX x ∧ lv x = 1 ∧ call fs (n + 2) 21 [.scr ns, .int k] = .ok (xD x, false) := by
  obtain ⟨a, a1, a2, ea⟩ := lawPick ns hl n k 4 hk (by omega) (by omega)
  rw [cs21, runF_eq rfl]
  by_cases c : a = 0
  · subst c
    obtain ⟨b, b1, b2, eb⟩ := lawPick ns hl n (k + 1) 7 (by omega) (by omega) (by omega)
    obtain ⟨y, ey, y1, y2⟩ := seven b1 b2
    refine ⟨.c y, ⟨by omega, by omega⟩, rfl, ?_⟩
    simp only [ev_var, ev_cst, ev_tup, ev_lst, ev_bin, ev_neg, ev_cmp, ev_chain, ev_isc, ev_and, ev_or, ev_not, ev_ifx, ev_ix, ev_slA, ev_slB, ev_slC, ev_call, ev_callv, ev_prim, ev_rng, ev_srs, ev_srl, ev_dnew, ev_rev, ev_comp, ev_compf, ev_comp2, evs_nil, evs_cons, sr_seq, sr_rg1, sr_rg2, sr_zip, sr_enum, ex_set, ex_unp, ex_par2, ex_par3, ex_drop, ex_app, ex_ext, ex_rem, ex_put, ex_ret, ex_retV, ex_retN, ex_pass, ex_ife, ex_forr, ex_whl, ex_raise, ex_try, exs_nil, exs_cons, andK_t, andK_f, orK_t, orK_f, ixK_t, ixK_f, chK_t, chK_f, cvK_fn, ifK_t, ifK_f, forK_n, varK_s, rvK_s, unpK_s, ownK_t, lenK_t, seqK_l, seqK_t, seqK_s, zipK_l, zipK_t, enuK_l, enuK_t, negK_i, iscK_t, iscK_f, tryO_nx, tryO_ret, bd_ok, bd_err, bd_bad, on_ok, on_err, on_bad, th_nx, th_ret, th_err, th_bad, boolR_ok, boolR_err, intR_ok, intR_err, noErr_ok, okIf_true, b_addI, b_subI, b_mulI, b_fdI, b_mdI, b_pwI, b_shI, c_lt, c_le, c_gt, c_ge, c_scr, c_eqI, c_neI, c_neB, c_eqB, x_lst, x_tup, x_dcs, c_inS, c_niS, c_ltS, p_dictL, p_dictT, p_lenL, p_lenT, p_lenS, p_minI, p_maxI, p_isi, p_tupL, p_tupT, p_lstL, p_lstT, p_intB, p_intI, tyD, isD, view_eq, viewF_nil, viewF_cons, vw_none, vw_val, vw_own0, isOwn, appL, viewA_nil, viewA_cons, vA_some, vA_none, after_nil, bindS, bindTg, Option.bind_some, List.map_cons, List.map_nil, List.cons_append, List.nil_append, List.set_cons_zero, List.set_cons_succ, List.getElem?_cons_zero, List.getElem?_cons_succ, List.length_cons, List.length_nil, List.isEmpty_nil, List.isEmpty_cons, ↓reduceIte, outR_nx, outR_ret, outR_err, Bool.not_true, Bool.not_false, Bool.false_and, Bool.true_and, Bool.and_true, Bool.and_false, Bool.or_true, Bool.true_or, Bool.false_or, Bool.or_false, Bool.false_eq_true, decide_true, decide_false, at0, at1, at2, at3, nabs, nabs_neg, ncast, beq_self_eq_true, List.replicate_succ, List.replicate_zero, Nat.reduceLT, Nat.reduceLeDiff, Nat.reduceLT, Nat.reduceAdd, Int.reduceLT, Int.reduceLE, Int.reduceNeg, Int.reduceEq, Int.reduceBEq, Int.reduceSub, Int.reduceAdd, Int.reduceMul, Int.reduceToNat, Nat.reduceSub, Nat.reduceMul, Nat.reduceEqDiff, lg, reduceCtorEq, Option.map_some, Option.map_none, f21, ea, eb, ey, xD]
  · obtain ⟨b, b1, b2, eb⟩ := lawPick ns hl n (k + 2) 4 (by omega) (by omega) (by omega)
    obtain ⟨i, _, i1, ei⟩ := abcd b1 b2
    refine ⟨.v i, i1, rfl, ?_⟩
    simp only [ev_var, ev_cst, ev_tup, ev_lst, ev_bin, ev_neg, ev_cmp, ev_chain, ev_isc, ev_and, ev_or, ev_not, ev_ifx, ev_ix, ev_slA, ev_slB, ev_slC, ev_call, ev_callv, ev_prim, ev_rng, ev_srs, ev_srl, ev_dnew, ev_rev, ev_comp, ev_compf, ev_comp2, evs_nil, evs_cons, sr_seq, sr_rg1, sr_rg2, sr_zip, sr_enum, ex_set, ex_unp, ex_par2, ex_par3, ex_drop, ex_app, ex_ext, ex_rem, ex_put, ex_ret, ex_retV, ex_retN, ex_pass, ex_ife, ex_forr, ex_whl, ex_raise, ex_try, exs_nil, exs_cons, andK_t, andK_f, orK_t, orK_f, ixK_t, ixK_f, chK_t, chK_f, cvK_fn, ifK_t, ifK_f, forK_n, varK_s, rvK_s, unpK_s, ownK_t, lenK_t, seqK_l, seqK_t, seqK_s, zipK_l, zipK_t, enuK_l, enuK_t, negK_i, iscK_t, iscK_f, tryO_nx, tryO_ret, bd_ok, bd_err, bd_bad, on_ok, on_err, on_bad, th_nx, th_ret, th_err, th_bad, boolR_ok, boolR_err, intR_ok, intR_err, noErr_ok, okIf_true, b_addI, b_subI, b_mulI, b_fdI, b_mdI, b_pwI, b_shI, c_lt, c_le, c_gt, c_ge, c_scr, c_eqI, c_neI, c_neB, c_eqB, x_lst, x_tup, x_dcs, c_inS, c_niS, c_ltS, p_dictL, p_dictT, p_lenL, p_lenT, p_lenS, p_minI, p_maxI, p_isi, p_tupL, p_tupT, p_lstL, p_lstT, p_intB, p_intI, tyD, isD, view_eq, viewF_nil, viewF_cons, vw_none, vw_val, vw_own0, isOwn, appL, viewA_nil, viewA_cons, vA_some, vA_none, after_nil, bindS, bindTg, Option.bind_some, List.map_cons, List.map_nil, List.cons_append, List.nil_append, List.set_cons_zero, List.set_cons_succ, List.getElem?_cons_zero, List.getElem?_cons_succ, List.length_cons, List.length_nil, List.isEmpty_nil, List.isEmpty_cons, ↓reduceIte, outR_nx, outR_ret, outR_err, Bool.not_true, Bool.not_false, Bool.false_and, Bool.true_and, Bool.and_true, Bool.and_false, Bool.or_true, Bool.true_or, Bool.false_or, Bool.or_false, Bool.false_eq_true, decide_true, decide_false, at0, at1, at2, at3, nabs, nabs_neg, ncast, beq_self_eq_true, List.replicate_succ, List.replicate_zero, Nat.reduceLT, Nat.reduceLeDiff, Nat.reduceLT, Nat.reduceAdd, Int.reduceLT, Int.reduceLE, Int.reduceNeg, Int.reduceEq, Int.reduceBEq, Int.reduceSub, Int.reduceAdd, Int.reduceMul, Int.reduceToNat, Nat.reduceSub, Nat.reduceMul, Nat.reduceEqDiff, lg, reduceCtorEq, Option.map_some, Option.map_none, f21, ea, c, eb, ei, xD]
def tot (xs : List X) : Nat := (xs.map lv).sum
omit hl in
theorem tot_len : ∀ xs : List X, xs.length ≤ tot xs
  | [] => Nat.le_refl _
  | x :: r => by
    have := lv_pos x
    have := tot_len r
    show r.length + 1 ≤ lv x + tot r
    omega
omit hl in
theorem tot_app (xs ys : List X) : tot (xs ++ ys) = tot xs + tot ys := by unfold tot; rw [List.map_append, List.sum_append]
omit hl in
theorem slBL (xs : List D) (k : Nat) : slD (.lst xs) none (some (k : Int)) = .ok (.lst (xs.take k), true) := by
  show R.ok (D.lst (SS.cutD xs none (some (k : Int))), true) = _
  have e : SS.cutD xs none (some (k : Int)) = xs.take k := by
    unfold SS.cutD
    rw [HT.sIx_none, HT.sIx_nat]
    simp
  rw [e]
omit hl in
theorem slAL (xs : List D) (k : Nat) : slD (.lst xs) (some (k : Int)) none = .ok (.lst (xs.drop k), true) := by
  show R.ok (D.lst (SS.cutD xs (some (k : Int)) none), true) = _
  have e : SS.cutD xs (some (k : Int)) none = xs.drop k := by
    unfold SS.cutD
    rw [HT.sIx_none, HT.sIx_nat]
    by_cases h : k ≤ xs.length
    · rw [Nat.min_eq_left h, List.take_of_length_le (by simp)]
    · rw [Nat.min_eq_right (by omega)]
      rw [List.drop_of_length_le (Nat.le_refl _), List.drop_of_length_le (by omega)]
      simp
  rw [e]
omit hl in
theorem split2 {xs : List X} {j : Nat} (h : j + 1 < xs.length) : ∃ a b l r, xs = l ++ a :: b :: r ∧ l.length = j := by
  refine ⟨xs[j], xs[j + 1], xs.take j, xs.drop (j + 2), ?_, by rw [List.length_take]; omega⟩
  have e1 : xs.drop j = xs[j] :: xs.drop (j + 1) := List.drop_eq_getElem_cons (by omega)
  have e2 : xs.drop (j + 1) = xs[j + 1] :: xs.drop (j + 2) := List.drop_eq_getElem_cons (by omega)
  rw [← e2, ← e1, List.take_append_drop]
theorem drawLoop (n : Nat) (k m : Int) (hk : 0 ≤ k) (hk2 : k ≤ 70000) : ∀ (t F : Nat) (xs : List X) (x4 x5 x6 : Option (Bool × D)), t < F → xs.length = t + 1 → xs.length ≤ 1000 → (∀ x ∈ xs, okX x) →
    ∃ x y5 y6, okX x ∧ lv x ≤ tot xs ∧ whS (call fs (n + 2)) (.cmp .gt (.prim .len (.cons (.var 3) .nil)) (.cst (.int (1)))) (.cons (.set 5 false (.call 20 (.cons (.var 0) (.cons (.bin .add (.bin .add (.var 1) (.cst (.int (31)))) (.prim .len (.cons (.var 3) .nil))) (.cons (.bin .sub (.prim .len (.cons (.var 3) .nil)) (.cst (.int (1)))) .nil)))) [])
    (.cons (.set 6 false (.ix (.cst (.str "+-*+-")) (.call 20 (.cons (.var 0) (.cons (.bin .add (.bin .add (.var 1) (.cst (.int (40)))) (.prim .len (.cons (.var 3) .nil))) (.cons (.cst (.int (5))) .nil))))) [])
    (.cons (.set 3 false (.bin .add (.bin .add (.slB (.var 3) (.var 5)) (.lst (.cons (.tup (.cons (.var 6) (.cons (.ix (.var 3) (.var 5)) (.cons (.ix (.var 3) (.bin .add (.var 5) (.cst (.int (1))))) .nil)))) .nil))) (.slA (.var 3) (.bin .add (.var 5) (.cst (.int (2)))))) [])
    .nil))) F [some (false, .scr ns), some (false, .int k), some (false, .int m), some (false, .lst (xs.map xD)), x4, x5, x6] =
      .nx [some (false, .scr ns), some (false, .int k), some (false, .int m), some (false, .lst [xD x]), x4, y5, y6]
  | t, 0, xs, x4, x5, x6, h, _, _, _ => absurd h (Nat.not_lt_zero _)
  | 0, F + 1, xs, x4, x5, x6, h, hx, hm, ok => by
    match xs, hx with
    | [x], _ =>
      refine ⟨x, x5, x6, ok x (by simp), by show lv x ≤ lv x + 0; omega, ?_⟩
      rw [whS_succ]
      simp only [ev_var, ev_cst, ev_tup, ev_lst, ev_bin, ev_neg, ev_cmp, ev_chain, ev_isc, ev_and, ev_or, ev_not, ev_ifx, ev_ix, ev_slA, ev_slB, ev_slC, ev_call, ev_callv, ev_prim, ev_rng, ev_srs, ev_srl, ev_dnew, ev_rev, ev_comp, ev_compf, ev_comp2, evs_nil, evs_cons, sr_seq, sr_rg1, sr_rg2, sr_zip, sr_enum, ex_set, ex_unp, ex_par2, ex_par3, ex_drop, ex_app, ex_ext, ex_rem, ex_put, ex_ret, ex_retV, ex_retN, ex_pass, ex_ife, ex_forr, ex_whl, ex_raise, ex_try, exs_nil, exs_cons, andK_t, andK_f, orK_t, orK_f, ixK_t, ixK_f, chK_t, chK_f, cvK_fn, ifK_t, ifK_f, forK_n, varK_s, rvK_s, unpK_s, ownK_t, lenK_t, seqK_l, seqK_t, seqK_s, zipK_l, zipK_t, enuK_l, enuK_t, negK_i, iscK_t, iscK_f, tryO_nx, tryO_ret, bd_ok, bd_err, bd_bad, on_ok, on_err, on_bad, th_nx, th_ret, th_err, th_bad, boolR_ok, boolR_err, intR_ok, intR_err, noErr_ok, okIf_true, b_addI, b_subI, b_mulI, b_fdI, b_mdI, b_pwI, b_shI, c_lt, c_le, c_gt, c_ge, c_scr, c_eqI, c_neI, c_neB, c_eqB, x_lst, x_tup, x_dcs, c_inS, c_niS, c_ltS, p_dictL, p_dictT, p_lenL, p_lenT, p_lenS, p_minI, p_maxI, p_isi, p_tupL, p_tupT, p_lstL, p_lstT, p_intB, p_intI, tyD, isD, view_eq, viewF_nil, viewF_cons, vw_none, vw_val, vw_own0, isOwn, appL, viewA_nil, viewA_cons, vA_some, vA_none, after_nil, bindS, bindTg, Option.bind_some, List.map_cons, List.map_nil, List.cons_append, List.nil_append, List.set_cons_zero, List.set_cons_succ, List.getElem?_cons_zero, List.getElem?_cons_succ, List.length_cons, List.length_nil, List.isEmpty_nil, List.isEmpty_cons, ↓reduceIte, outR_nx, outR_ret, outR_err, Bool.not_true, Bool.not_false, Bool.false_and, Bool.true_and, Bool.and_true, Bool.and_false, Bool.or_true, Bool.true_or, Bool.false_or, Bool.or_false, Bool.false_eq_true, decide_true, decide_false, at0, at1, at2, at3, nabs, nabs_neg, ncast, beq_self_eq_true, List.replicate_succ, List.replicate_zero, Nat.reduceLT, Nat.reduceLeDiff, Nat.reduceLT, Nat.reduceAdd, Int.reduceLT, Int.reduceLE, Int.reduceNeg, Int.reduceEq, Int.reduceBEq, Int.reduceSub, Int.reduceAdd, Int.reduceMul, Int.reduceToNat, Nat.reduceSub, Nat.reduceMul, Nat.reduceEqDiff, lg, reduceCtorEq, Option.map_some, Option.map_none]
  | t + 1, F + 1, xs, x4, x5, x6, h, hx, hm, ok => by
    have c : (1 : Int) < (xs.length : Int) := by omega
    obtain ⟨at', a1, a2, ea⟩ := lawPick ns hl (n + 1) (k + 31 + (xs.length : Int)) ((xs.length : Int) - 1) (by omega) (by omega) (by omega)
    obtain ⟨b, b1, b2, eb⟩ := lawPick ns hl (n + 1) (k + 40 + (xs.length : Int)) 5 (by omega) (by omega) (by omega)
    obtain ⟨o, eo⟩ := signs b1 b2
    obtain ⟨j, rfl⟩ := Int.eq_ofNat_of_zero_le a1
    obtain ⟨p, q, l, r, exs, el⟩ := split2 (xs := xs) (j := j) (by omega)
    have g1 : atD (xs.map xD) (j : Int) = .ok (xD p, false) := atD_nat (by rw [exs, List.getElem?_map, List.getElem?_append_right (by omega), el, Nat.sub_self]; rfl)
    have g2 : atD (xs.map xD) ((j : Int) + 1) = .ok (xD q, false) := atD_nat (n := j + 1) (by rw [exs, List.getElem?_map, List.getElem?_append_right (by omega), el, show j + 1 - j = 1 by omega]; rfl)
    have g3 : slD (.lst (xs.map xD)) none (some (j : Int)) = .ok (.lst (l.map xD), true) := by
      rw [slBL, ← List.map_take, exs, ← el, List.take_left']
      rfl
    have g4 : slD (.lst (xs.map xD)) (some ((j : Int) + 2)) none = .ok (.lst (r.map xD), true) := by
      have := slAL (xs.map xD) (j + 2)
      rw [show ((j + 2 : Nat) : Int) = (j : Int) + 2 by omega] at this
      have e : xs.drop (j + 2) = r := by
        rw [exs, ← el, show l ++ p :: q :: r = (l ++ [p, q]) ++ r by simp]
        exact List.drop_left' (by simp)
      rw [this, ← List.map_drop, e]
    have len : xs.length = l.length + r.length + 2 := by rw [exs]; simp; omega
    have z1 : l.length + 1 ≤ szl := by unfold szl; omega
    have z2 : l.length + 1 + r.length ≤ szl := by unfold szl; omega
    have ok2 : ∀ x ∈ l ++ .b o p q :: r, okX x := fun x hx => by
      rw [exs] at ok
      rcases List.mem_append.mp hx with z | z
      · exact ok x (List.mem_append_left _ z)
      · rcases List.mem_cons.mp z with z | z
        · subst z
          exact ⟨ok p (by simp), ok q (by simp)⟩
        · exact ok x (by simp [z])
    obtain ⟨x, y5, y6, h1, h2, h3⟩ := drawLoop n k m hk hk2 t F (l ++ .b o p q :: r) x4 (some (false, .int (j : Int))) (some (false, .str (sg o))) (by omega) (by rw [List.length_append, List.length_cons]; omega) (by rw [List.length_append, List.length_cons]; omega) ok2
    refine ⟨x, y5, y6, h1, ?_, ?_⟩
    · rw [tot_app] at h2
      rw [exs, tot_app]
      show lv x ≤ tot l + (lv p + (lv q + tot r))
      have : tot (.b o p q :: r) = (lv p + lv q) + tot r := rfl
      omega
    · rw [whS_succ]
      simp only [ev_var, ev_cst, ev_tup, ev_lst, ev_bin, ev_neg, ev_cmp, ev_chain, ev_isc, ev_and, ev_or, ev_not, ev_ifx, ev_ix, ev_slA, ev_slB, ev_slC, ev_call, ev_callv, ev_prim, ev_rng, ev_srs, ev_srl, ev_dnew, ev_rev, ev_comp, ev_compf, ev_comp2, evs_nil, evs_cons, sr_seq, sr_rg1, sr_rg2, sr_zip, sr_enum, ex_set, ex_unp, ex_par2, ex_par3, ex_drop, ex_app, ex_ext, ex_rem, ex_put, ex_ret, ex_retV, ex_retN, ex_pass, ex_ife, ex_forr, ex_whl, ex_raise, ex_try, exs_nil, exs_cons, andK_t, andK_f, orK_t, orK_f, ixK_t, ixK_f, chK_t, chK_f, cvK_fn, ifK_t, ifK_f, forK_n, varK_s, rvK_s, unpK_s, ownK_t, lenK_t, seqK_l, seqK_t, seqK_s, zipK_l, zipK_t, enuK_l, enuK_t, negK_i, iscK_t, iscK_f, tryO_nx, tryO_ret, bd_ok, bd_err, bd_bad, on_ok, on_err, on_bad, th_nx, th_ret, th_err, th_bad, boolR_ok, boolR_err, intR_ok, intR_err, noErr_ok, okIf_true, b_addI, b_subI, b_mulI, b_fdI, b_mdI, b_pwI, b_shI, c_lt, c_le, c_gt, c_ge, c_scr, c_eqI, c_neI, c_neB, c_eqB, x_lst, x_tup, x_dcs, c_inS, c_niS, c_ltS, p_dictL, p_dictT, p_lenL, p_lenT, p_lenS, p_minI, p_maxI, p_isi, p_tupL, p_tupT, p_lstL, p_lstT, p_intB, p_intI, tyD, isD, view_eq, viewF_nil, viewF_cons, vw_none, vw_val, vw_own0, isOwn, appL, viewA_nil, viewA_cons, vA_some, vA_none, after_nil, bindS, bindTg, Option.bind_some, List.map_cons, List.map_nil, List.cons_append, List.nil_append, List.set_cons_zero, List.set_cons_succ, List.getElem?_cons_zero, List.getElem?_cons_succ, List.length_cons, List.length_nil, List.isEmpty_nil, List.isEmpty_cons, ↓reduceIte, outR_nx, outR_ret, outR_err, Bool.not_true, Bool.not_false, Bool.false_and, Bool.true_and, Bool.and_true, Bool.and_false, Bool.or_true, Bool.true_or, Bool.false_or, Bool.or_false, Bool.false_eq_true, decide_true, decide_false, at0, at1, at2, at3, nabs, nabs_neg, ncast, beq_self_eq_true, List.replicate_succ, List.replicate_zero, Nat.reduceLT, Nat.reduceLeDiff, Nat.reduceLT, Nat.reduceAdd, Int.reduceLT, Int.reduceLE, Int.reduceNeg, Int.reduceEq, Int.reduceBEq, Int.reduceSub, Int.reduceAdd, Int.reduceMul, Int.reduceToNat, Nat.reduceSub, Nat.reduceMul, Nat.reduceEqDiff, lg, reduceCtorEq, Option.map_some, Option.map_none, List.length_map, c, ea, eb, eo, g1, g2, g3, g4, b_addL, List.length_cons, List.length_nil, z1, List.length_append, z2]
      rw [← h3]
      simp only [List.map_append, List.map_cons, xD, List.append_assoc, List.cons_append, List.nil_append]
end

theorem list_of {P : X → Prop} : ∀ {ys : List D}, (∀ (i : Nat) (y : D), ys[i]? = some y → ∃ x, y = xD x ∧ P x) → ∃ xs : List X, ys = xs.map xD ∧ ∀ x ∈ xs, P x
  | [], _ => ⟨[], rfl, fun _ h => absurd h (by simp)⟩
  | y :: r, h => by
    obtain ⟨x, e, p⟩ := h 0 y rfl
    obtain ⟨xs, e2, p2⟩ := list_of (ys := r) fun i z hz => h (i + 1) z (by simpa using hz)
    refine ⟨x :: xs, by rw [e, e2]; rfl, fun z hz => ?_⟩
    rcases List.mem_cons.mp hz with q | q
    · rw [q]; exact p
    · exact p2 z q
theorem tot_ones : ∀ {xs : List X}, (∀ x ∈ xs, okX x ∧ lv x = 1) → tot xs = xs.length
  | [], _ => rfl
  | x :: r, h => by
    have e := tot_ones (xs := r) fun z hz => h z (List.mem_cons_of_mem _ hz)
    have e2 := (h x List.mem_cons_self).2
    show lv x + tot r = r.length + 1
    omega
section
variable (ns : List Int) (hl : ns.length ≤ 63)
include hl
theorem lawDrawn (n : Nat) (k : Int) (hk : 0 ≤ k) (hk2 : k ≤ 60000) : ∃ x, goodX x ∧ call fs (n + 3) 22 [.scr ns, .int k, .int 6] = .ok (xD x, false) := by
  obtain ⟨d, d1, d2, ed⟩ := lawPick ns hl (n + 1) (k + 30) 6 (by omega) (by omega) (by omega)
  have g : rgOk 0 (1 + d) = true := rgOk_ok (by omega) (by omega) (by omega) (by omega) (by omega)
  rw [cs22, runF_eq rfl]
  simp only [ev_var, ev_cst, ev_tup, ev_lst, ev_bin, ev_neg, ev_cmp, ev_chain, ev_isc, ev_and, ev_or, ev_not, ev_ifx, ev_ix, ev_slA, ev_slB, ev_slC, ev_call, ev_callv, ev_prim, ev_rng, ev_srs, ev_srl, ev_dnew, ev_rev, ev_comp, ev_compf, ev_comp2, evs_nil, evs_cons, sr_seq, sr_rg1, sr_rg2, sr_zip, sr_enum, ex_set, ex_unp, ex_par2, ex_par3, ex_drop, ex_app, ex_ext, ex_rem, ex_put, ex_ret, ex_retV, ex_retN, ex_pass, ex_ife, ex_forr, ex_whl, ex_raise, ex_try, exs_nil, exs_cons, andK_t, andK_f, orK_t, orK_f, ixK_t, ixK_f, chK_t, chK_f, cvK_fn, ifK_t, ifK_f, forK_n, varK_s, rvK_s, unpK_s, ownK_t, lenK_t, seqK_l, seqK_t, seqK_s, zipK_l, zipK_t, enuK_l, enuK_t, negK_i, iscK_t, iscK_f, tryO_nx, tryO_ret, bd_ok, bd_err, bd_bad, on_ok, on_err, on_bad, th_nx, th_ret, th_err, th_bad, boolR_ok, boolR_err, intR_ok, intR_err, noErr_ok, okIf_true, b_addI, b_subI, b_mulI, b_fdI, b_mdI, b_pwI, b_shI, c_lt, c_le, c_gt, c_ge, c_scr, c_eqI, c_neI, c_neB, c_eqB, x_lst, x_tup, x_dcs, c_inS, c_niS, c_ltS, p_dictL, p_dictT, p_lenL, p_lenT, p_lenS, p_minI, p_maxI, p_isi, p_tupL, p_tupT, p_lstL, p_lstT, p_intB, p_intI, tyD, isD, view_eq, viewF_nil, viewF_cons, vw_none, vw_val, vw_own0, isOwn, appL, viewA_nil, viewA_cons, vA_some, vA_none, after_nil, bindS, bindTg, Option.bind_some, List.map_cons, List.map_nil, List.cons_append, List.nil_append, List.set_cons_zero, List.set_cons_succ, List.getElem?_cons_zero, List.getElem?_cons_succ, List.length_cons, List.length_nil, List.isEmpty_nil, List.isEmpty_cons, ↓reduceIte, outR_nx, outR_ret, outR_err, Bool.not_true, Bool.not_false, Bool.false_and, Bool.true_and, Bool.and_true, Bool.and_false, Bool.or_true, Bool.true_or, Bool.false_or, Bool.or_false, Bool.false_eq_true, decide_true, decide_false, at0, at1, at2, at3, nabs, nabs_neg, ncast, beq_self_eq_true, List.replicate_succ, List.replicate_zero, Nat.reduceLT, Nat.reduceLeDiff, Nat.reduceLT, Nat.reduceAdd, Int.reduceLT, Int.reduceLE, Int.reduceNeg, Int.reduceEq, Int.reduceBEq, Int.reduceSub, Int.reduceAdd, Int.reduceMul, Int.reduceToNat, Nat.reduceSub, Nat.reduceMul, Nat.reduceEqDiff, lg, reduceCtorEq, Option.map_some, Option.map_none, f22, ed, g]
  obtain ⟨ys, e1, l1, q1⟩ := cmpK_ex (C := call fs (n + 2)) (elt := (.call 21 (.cons (.var 0) (.cons (.bin .add (.var 1) (.bin .mul (.cst (.int (4))) (.var 4))) .nil)))) (tg := (.nm 4)) (own := [4]) (ρ := [some (.scr ns), some (.int k), some (.int 6), none, none, none, none]) (Q := fun _ _ y => ∃ x, y = xD x ∧ (okX x ∧ lv x = 1)) (xs := rgD 0 (1 + d)) fun i x hx => by
    obtain ⟨i', rfl, i1, i2⟩ := rgD_mem (List.mem_of_getElem? hx)
    obtain ⟨x, ok, l, e⟩ := lawLeaf ns hl n (k + 4 * i') (by omega) (by omega)
    refine ⟨xD x, ?_, x, rfl, ok, l⟩
    simp only [ev_var, ev_cst, ev_tup, ev_lst, ev_bin, ev_neg, ev_cmp, ev_chain, ev_isc, ev_and, ev_or, ev_not, ev_ifx, ev_ix, ev_slA, ev_slB, ev_slC, ev_call, ev_callv, ev_prim, ev_rng, ev_srs, ev_srl, ev_dnew, ev_rev, ev_comp, ev_compf, ev_comp2, evs_nil, evs_cons, sr_seq, sr_rg1, sr_rg2, sr_zip, sr_enum, ex_set, ex_unp, ex_par2, ex_par3, ex_drop, ex_app, ex_ext, ex_rem, ex_put, ex_ret, ex_retV, ex_retN, ex_pass, ex_ife, ex_forr, ex_whl, ex_raise, ex_try, exs_nil, exs_cons, andK_t, andK_f, orK_t, orK_f, ixK_t, ixK_f, chK_t, chK_f, cvK_fn, ifK_t, ifK_f, forK_n, varK_s, rvK_s, unpK_s, ownK_t, lenK_t, seqK_l, seqK_t, seqK_s, zipK_l, zipK_t, enuK_l, enuK_t, negK_i, iscK_t, iscK_f, tryO_nx, tryO_ret, bd_ok, bd_err, bd_bad, on_ok, on_err, on_bad, th_nx, th_ret, th_err, th_bad, boolR_ok, boolR_err, intR_ok, intR_err, noErr_ok, okIf_true, b_addI, b_subI, b_mulI, b_fdI, b_mdI, b_pwI, b_shI, c_lt, c_le, c_gt, c_ge, c_scr, c_eqI, c_neI, c_neB, c_eqB, x_lst, x_tup, x_dcs, c_inS, c_niS, c_ltS, p_dictL, p_dictT, p_lenL, p_lenT, p_lenS, p_minI, p_maxI, p_isi, p_tupL, p_tupT, p_lstL, p_lstT, p_intB, p_intI, tyD, isD, view_eq, viewF_nil, viewF_cons, vw_none, vw_val, vw_own0, isOwn, appL, viewA_nil, viewA_cons, vA_some, vA_none, after_nil, bindS, bindTg, Option.bind_some, List.map_cons, List.map_nil, List.cons_append, List.nil_append, List.set_cons_zero, List.set_cons_succ, List.getElem?_cons_zero, List.getElem?_cons_succ, List.length_cons, List.length_nil, List.isEmpty_nil, List.isEmpty_cons, ↓reduceIte, outR_nx, outR_ret, outR_err, Bool.not_true, Bool.not_false, Bool.false_and, Bool.true_and, Bool.and_true, Bool.and_false, Bool.or_true, Bool.true_or, Bool.false_or, Bool.or_false, Bool.false_eq_true, decide_true, decide_false, at0, at1, at2, at3, nabs, nabs_neg, ncast, beq_self_eq_true, List.replicate_succ, List.replicate_zero, Nat.reduceLT, Nat.reduceLeDiff, Nat.reduceLT, Nat.reduceAdd, Int.reduceLT, Int.reduceLE, Int.reduceNeg, Int.reduceEq, Int.reduceBEq, Int.reduceSub, Int.reduceAdd, Int.reduceMul, Int.reduceToNat, Nat.reduceSub, Nat.reduceMul, Nat.reduceEqDiff, lg, reduceCtorEq, Option.map_some, Option.map_none, cmpT, wipeE, e]
  rw [rgD_length] at l1
  obtain ⟨xs, rfl, hx⟩ := list_of (P := fun x => okX x ∧ lv x = 1) (ys := ys) fun i y hy => by
    have hi : i < (rgD 0 (1 + d)).length := by
      have := (List.getElem?_eq_some_iff.mp hy).1
      rw [rgD_length]; omega
    obtain ⟨y', h1, h2⟩ := q1 i _ (List.getElem?_eq_getElem hi)
    rw [hy] at h1
    cases h1
    exact h2
  rw [List.length_map] at l1
  obtain ⟨x, y5, y6, h1, h2, h3⟩ := drawLoop ns hl n k 6 hk (by omega) d.toNat whFuel xs none none none (by unfold whFuel; omega) (by omega) (by omega) fun x hx' => (hx x hx').1
  rw [tot_ones hx] at h2
  refine ⟨x, ⟨h1, by omega⟩, ?_⟩
  rw [e1]
  simp only [ev_var, ev_cst, ev_tup, ev_lst, ev_bin, ev_neg, ev_cmp, ev_chain, ev_isc, ev_and, ev_or, ev_not, ev_ifx, ev_ix, ev_slA, ev_slB, ev_slC, ev_call, ev_callv, ev_prim, ev_rng, ev_srs, ev_srl, ev_dnew, ev_rev, ev_comp, ev_compf, ev_comp2, evs_nil, evs_cons, sr_seq, sr_rg1, sr_rg2, sr_zip, sr_enum, ex_set, ex_unp, ex_par2, ex_par3, ex_drop, ex_app, ex_ext, ex_rem, ex_put, ex_ret, ex_retV, ex_retN, ex_pass, ex_ife, ex_forr, ex_whl, ex_raise, ex_try, exs_nil, exs_cons, andK_t, andK_f, orK_t, orK_f, ixK_t, ixK_f, chK_t, chK_f, cvK_fn, ifK_t, ifK_f, forK_n, varK_s, rvK_s, unpK_s, ownK_t, lenK_t, seqK_l, seqK_t, seqK_s, zipK_l, zipK_t, enuK_l, enuK_t, negK_i, iscK_t, iscK_f, tryO_nx, tryO_ret, bd_ok, bd_err, bd_bad, on_ok, on_err, on_bad, th_nx, th_ret, th_err, th_bad, boolR_ok, boolR_err, intR_ok, intR_err, noErr_ok, okIf_true, b_addI, b_subI, b_mulI, b_fdI, b_mdI, b_pwI, b_shI, c_lt, c_le, c_gt, c_ge, c_scr, c_eqI, c_neI, c_neB, c_eqB, x_lst, x_tup, x_dcs, c_inS, c_niS, c_ltS, p_dictL, p_dictT, p_lenL, p_lenT, p_lenS, p_minI, p_maxI, p_isi, p_tupL, p_tupT, p_lstL, p_lstT, p_intB, p_intI, tyD, isD, view_eq, viewF_nil, viewF_cons, vw_none, vw_val, vw_own0, isOwn, appL, viewA_nil, viewA_cons, vA_some, vA_none, after_nil, bindS, bindTg, Option.bind_some, List.map_cons, List.map_nil, List.cons_append, List.nil_append, List.set_cons_zero, List.set_cons_succ, List.getElem?_cons_zero, List.getElem?_cons_succ, List.length_cons, List.length_nil, List.isEmpty_nil, List.isEmpty_cons, ↓reduceIte, outR_nx, outR_ret, outR_err, Bool.not_true, Bool.not_false, Bool.false_and, Bool.true_and, Bool.and_true, Bool.and_false, Bool.or_true, Bool.true_or, Bool.false_or, Bool.or_false, Bool.false_eq_true, decide_true, decide_false, at0, at1, at2, at3, nabs, nabs_neg, ncast, beq_self_eq_true, List.replicate_succ, List.replicate_zero, Nat.reduceLT, Nat.reduceLeDiff, Nat.reduceLT, Nat.reduceAdd, Int.reduceLT, Int.reduceLE, Int.reduceNeg, Int.reduceEq, Int.reduceBEq, Int.reduceSub, Int.reduceAdd, Int.reduceMul, Int.reduceToNat, Nat.reduceSub, Nat.reduceMul, Nat.reduceEqDiff, lg, reduceCtorEq, Option.map_some, Option.map_none]
  rw [h3]
  simp only [ev_var, ev_cst, ev_tup, ev_lst, ev_bin, ev_neg, ev_cmp, ev_chain, ev_isc, ev_and, ev_or, ev_not, ev_ifx, ev_ix, ev_slA, ev_slB, ev_slC, ev_call, ev_callv, ev_prim, ev_rng, ev_srs, ev_srl, ev_dnew, ev_rev, ev_comp, ev_compf, ev_comp2, evs_nil, evs_cons, sr_seq, sr_rg1, sr_rg2, sr_zip, sr_enum, ex_set, ex_unp, ex_par2, ex_par3, ex_drop, ex_app, ex_ext, ex_rem, ex_put, ex_ret, ex_retV, ex_retN, ex_pass, ex_ife, ex_forr, ex_whl, ex_raise, ex_try, exs_nil, exs_cons, andK_t, andK_f, orK_t, orK_f, ixK_t, ixK_f, chK_t, chK_f, cvK_fn, ifK_t, ifK_f, forK_n, varK_s, rvK_s, unpK_s, ownK_t, lenK_t, seqK_l, seqK_t, seqK_s, zipK_l, zipK_t, enuK_l, enuK_t, negK_i, iscK_t, iscK_f, tryO_nx, tryO_ret, bd_ok, bd_err, bd_bad, on_ok, on_err, on_bad, th_nx, th_ret, th_err, th_bad, boolR_ok, boolR_err, intR_ok, intR_err, noErr_ok, okIf_true, b_addI, b_subI, b_mulI, b_fdI, b_mdI, b_pwI, b_shI, c_lt, c_le, c_gt, c_ge, c_scr, c_eqI, c_neI, c_neB, c_eqB, x_lst, x_tup, x_dcs, c_inS, c_niS, c_ltS, p_dictL, p_dictT, p_lenL, p_lenT, p_lenS, p_minI, p_maxI, p_isi, p_tupL, p_tupT, p_lstL, p_lstT, p_intB, p_intI, tyD, isD, view_eq, viewF_nil, viewF_cons, vw_none, vw_val, vw_own0, isOwn, appL, viewA_nil, viewA_cons, vA_some, vA_none, after_nil, bindS, bindTg, Option.bind_some, List.map_cons, List.map_nil, List.cons_append, List.nil_append, List.set_cons_zero, List.set_cons_succ, List.getElem?_cons_zero, List.getElem?_cons_succ, List.length_cons, List.length_nil, List.isEmpty_nil, List.isEmpty_cons, ↓reduceIte, outR_nx, outR_ret, outR_err, Bool.not_true, Bool.not_false, Bool.false_and, Bool.true_and, Bool.and_true, Bool.and_false, Bool.or_true, Bool.true_or, Bool.false_or, Bool.or_false, Bool.false_eq_true, decide_true, decide_false, at0, at1, at2, at3, nabs, nabs_neg, ncast, beq_self_eq_true, List.replicate_succ, List.replicate_zero, Nat.reduceLT, Nat.reduceLeDiff, Nat.reduceLT, Nat.reduceAdd, Int.reduceLT, Int.reduceLE, Int.reduceNeg, Int.reduceEq, Int.reduceBEq, Int.reduceSub, Int.reduceAdd, Int.reduceMul, Int.reduceToNat, Nat.reduceSub, Nat.reduceMul, Nat.reduceEqDiff, lg, reduceCtorEq, Option.map_some, Option.map_none]
def lawRw (w : Int) (r : Nat × Int × Int) : Prop := -6 ≤ r.2.1 ∧ r.2.1 ≤ 6 ∧ r.2.1 ≤ r.2.2 ∧ r.2.2 < r.2.1 + w
theorem lawBox (n : Nat) (k w : Int) (hk : 0 ≤ k) (hk2 : k ≤ 60000) (hw : 1 ≤ w) (hw2 : w ≤ 100) : ∃ bs : List (Nat × Int × Int), bs.map (·.1) = [0, 1, 2, 3] ∧ (∀ r ∈ bs, lawRw w r) ∧ call fs (n + 2) 23 [.scr ns, .int k, .int w] = .ok (bxD bs, false) := by
  have g : rgOk 0 4 = true := by decide
  rw [cs23, runF_eq rfl]
  simp only [ev_var, ev_cst, ev_tup, ev_lst, ev_bin, ev_neg, ev_cmp, ev_chain, ev_isc, ev_and, ev_or, ev_not, ev_ifx, ev_ix, ev_slA, ev_slB, ev_slC, ev_call, ev_callv, ev_prim, ev_rng, ev_srs, ev_srl, ev_dnew, ev_rev, ev_comp, ev_compf, ev_comp2, evs_nil, evs_cons, sr_seq, sr_rg1, sr_rg2, sr_zip, sr_enum, ex_set, ex_unp, ex_par2, ex_par3, ex_drop, ex_app, ex_ext, ex_rem, ex_put, ex_ret, ex_retV, ex_retN, ex_pass, ex_ife, ex_forr, ex_whl, ex_raise, ex_try, exs_nil, exs_cons, andK_t, andK_f, orK_t, orK_f, ixK_t, ixK_f, chK_t, chK_f, cvK_fn, ifK_t, ifK_f, forK_n, varK_s, rvK_s, unpK_s, ownK_t, lenK_t, seqK_l, seqK_t, seqK_s, zipK_l, zipK_t, enuK_l, enuK_t, negK_i, iscK_t, iscK_f, tryO_nx, tryO_ret, bd_ok, bd_err, bd_bad, on_ok, on_err, on_bad, th_nx, th_ret, th_err, th_bad, boolR_ok, boolR_err, intR_ok, intR_err, noErr_ok, okIf_true, b_addI, b_subI, b_mulI, b_fdI, b_mdI, b_pwI, b_shI, c_lt, c_le, c_gt, c_ge, c_scr, c_eqI, c_neI, c_neB, c_eqB, x_lst, x_tup, x_dcs, c_inS, c_niS, c_ltS, p_dictL, p_dictT, p_lenL, p_lenT, p_lenS, p_minI, p_maxI, p_isi, p_tupL, p_tupT, p_lstL, p_lstT, p_intB, p_intI, tyD, isD, view_eq, viewF_nil, viewF_cons, vw_none, vw_val, vw_own0, isOwn, appL, viewA_nil, viewA_cons, vA_some, vA_none, after_nil, bindS, bindTg, Option.bind_some, List.map_cons, List.map_nil, List.cons_append, List.nil_append, List.set_cons_zero, List.set_cons_succ, List.getElem?_cons_zero, List.getElem?_cons_succ, List.length_cons, List.length_nil, List.isEmpty_nil, List.isEmpty_cons, ↓reduceIte, outR_nx, outR_ret, outR_err, Bool.not_true, Bool.not_false, Bool.false_and, Bool.true_and, Bool.and_true, Bool.and_false, Bool.or_true, Bool.true_or, Bool.false_or, Bool.or_false, Bool.false_eq_true, decide_true, decide_false, at0, at1, at2, at3, nabs, nabs_neg, ncast, beq_self_eq_true, List.replicate_succ, List.replicate_zero, Nat.reduceLT, Nat.reduceLeDiff, Nat.reduceLT, Nat.reduceAdd, Int.reduceLT, Int.reduceLE, Int.reduceNeg, Int.reduceEq, Int.reduceBEq, Int.reduceSub, Int.reduceAdd, Int.reduceMul, Int.reduceToNat, Nat.reduceSub, Nat.reduceMul, Nat.reduceEqDiff, lg, reduceCtorEq, Option.map_some, Option.map_none, f23, g]
  obtain ⟨δ, eδ, rs, x4, x5, l1, l2, rfl⟩ := forS_pre (C := call fs (n + 1)) (tg := (.nm 4)) (body := (.cons (.set 5 false (.bin .sub (.call 20 (.cons (.var 0) (.cons (.bin .add (.var 1) (.bin .mul (.cst (.int (2))) (.var 4))) (.cons (.cst (.int (13))) .nil)))) (.cst (.int (6)))) [])
    (.cons (.app 3 (.tup (.cons (.ix (.cst (.str "abcd")) (.var 4)) (.cons (.var 5) (.cons (.bin .add (.var 5) (.call 20 (.cons (.var 0) (.cons (.bin .add (.bin .add (.var 1) (.bin .mul (.cst (.int (2))) (.var 4))) (.cst (.int (1)))) (.cons (.var 2) .nil))))) .nil)))) [])
    .nil))) (xs := rgD 0 4) (δ := [some (false, .scr ns), some (false, .int k), some (false, .int w), some (true, .lst []), none, none])
    (fun pre δ => ∃ rs x4 x5, rs.map (·.1) = List.range pre.length ∧ (∀ r ∈ rs, lawRw w r) ∧ δ = [some (false, .scr ns), some (false, .int k), some (false, .int w), some (true, .lst (rs.map rwB)), x4, x5]) (fun pre x post δ hx ⟨rs, x4, x5, q1, q2, q3⟩ => by
      obtain ⟨rfl, a2⟩ := rgD_at hx
      subst q3
      have q1l : rs.length = pre.length := by
        have := congrArg List.length q1
        simpa using this
      obtain ⟨v1, v1a, v1b, w1⟩ := lawPick ns hl n (k + 2 * (0 + (pre.length : Int))) 13 (by omega) (by omega) (by omega)
      obtain ⟨v2, v2a, v2b, w2⟩ := lawPick ns hl n (k + 2 * (0 + (pre.length : Int)) + 1) w (by omega) (by omega) (by omega)
      obtain ⟨i, hi, i4, ei⟩ := abcd (r := 0 + (pre.length : Int)) (by omega) (by omega)
      have ip : i = pre.length := by omega
      have hz : rs.length < szl := by rw [q1l]; unfold szl; omega
      refine ⟨_, ?_, rs ++ [(i, v1 - 6, v1 - 6 + v2)], some (false, .int (0 + (pre.length : Int))), some (false, .int (v1 - 6)), ?_, fun r hr => ?_, rfl⟩
      · simp only [ev_var, ev_cst, ev_tup, ev_lst, ev_bin, ev_neg, ev_cmp, ev_chain, ev_isc, ev_and, ev_or, ev_not, ev_ifx, ev_ix, ev_slA, ev_slB, ev_slC, ev_call, ev_callv, ev_prim, ev_rng, ev_srs, ev_srl, ev_dnew, ev_rev, ev_comp, ev_compf, ev_comp2, evs_nil, evs_cons, sr_seq, sr_rg1, sr_rg2, sr_zip, sr_enum, ex_set, ex_unp, ex_par2, ex_par3, ex_drop, ex_app, ex_ext, ex_rem, ex_put, ex_ret, ex_retV, ex_retN, ex_pass, ex_ife, ex_forr, ex_whl, ex_raise, ex_try, exs_nil, exs_cons, andK_t, andK_f, orK_t, orK_f, ixK_t, ixK_f, chK_t, chK_f, cvK_fn, ifK_t, ifK_f, forK_n, varK_s, rvK_s, unpK_s, ownK_t, lenK_t, seqK_l, seqK_t, seqK_s, zipK_l, zipK_t, enuK_l, enuK_t, negK_i, iscK_t, iscK_f, tryO_nx, tryO_ret, bd_ok, bd_err, bd_bad, on_ok, on_err, on_bad, th_nx, th_ret, th_err, th_bad, boolR_ok, boolR_err, intR_ok, intR_err, noErr_ok, okIf_true, b_addI, b_subI, b_mulI, b_fdI, b_mdI, b_pwI, b_shI, c_lt, c_le, c_gt, c_ge, c_scr, c_eqI, c_neI, c_neB, c_eqB, x_lst, x_tup, x_dcs, c_inS, c_niS, c_ltS, p_dictL, p_dictT, p_lenL, p_lenT, p_lenS, p_minI, p_maxI, p_isi, p_tupL, p_tupT, p_lstL, p_lstT, p_intB, p_intI, tyD, isD, view_eq, viewF_nil, viewF_cons, vw_none, vw_val, vw_own0, isOwn, appL, viewA_nil, viewA_cons, vA_some, vA_none, after_nil, bindS, bindTg, Option.bind_some, List.map_cons, List.map_nil, List.cons_append, List.nil_append, List.set_cons_zero, List.set_cons_succ, List.getElem?_cons_zero, List.getElem?_cons_succ, List.length_cons, List.length_nil, List.isEmpty_nil, List.isEmpty_cons, ↓reduceIte, outR_nx, outR_ret, outR_err, Bool.not_true, Bool.not_false, Bool.false_and, Bool.true_and, Bool.and_true, Bool.and_false, Bool.or_true, Bool.true_or, Bool.false_or, Bool.or_false, Bool.false_eq_true, decide_true, decide_false, at0, at1, at2, at3, nabs, nabs_neg, ncast, beq_self_eq_true, List.replicate_succ, List.replicate_zero, Nat.reduceLT, Nat.reduceLeDiff, Nat.reduceLT, Nat.reduceAdd, Int.reduceLT, Int.reduceLE, Int.reduceNeg, Int.reduceEq, Int.reduceBEq, Int.reduceSub, Int.reduceAdd, Int.reduceMul, Int.reduceToNat, Nat.reduceSub, Nat.reduceMul, Nat.reduceEqDiff, lg, reduceCtorEq, Option.map_some, Option.map_none, bodK_s, w1, w2, ei, List.length_map, hz, List.map_append, List.map_cons, List.map_nil, rwB]
      · rw [List.map_append, q1, List.length_append, List.length_singleton, List.range_succ, ip]
        rfl
      · rcases List.mem_append.mp hr with h | h
        · exact q2 r h
        · simp only [List.mem_singleton] at h
          subst h
          unfold lawRw
          dsimp only
          omega) ⟨[], none, none, rfl, fun _ h => absurd h (by simp), rfl⟩
  rw [rgD_length] at l1
  refine ⟨rs, l1, l2, ?_⟩
  rw [eδ]
  simp only [ev_var, ev_cst, ev_tup, ev_lst, ev_bin, ev_neg, ev_cmp, ev_chain, ev_isc, ev_and, ev_or, ev_not, ev_ifx, ev_ix, ev_slA, ev_slB, ev_slC, ev_call, ev_callv, ev_prim, ev_rng, ev_srs, ev_srl, ev_dnew, ev_rev, ev_comp, ev_compf, ev_comp2, evs_nil, evs_cons, sr_seq, sr_rg1, sr_rg2, sr_zip, sr_enum, ex_set, ex_unp, ex_par2, ex_par3, ex_drop, ex_app, ex_ext, ex_rem, ex_put, ex_ret, ex_retV, ex_retN, ex_pass, ex_ife, ex_forr, ex_whl, ex_raise, ex_try, exs_nil, exs_cons, andK_t, andK_f, orK_t, orK_f, ixK_t, ixK_f, chK_t, chK_f, cvK_fn, ifK_t, ifK_f, forK_n, varK_s, rvK_s, unpK_s, ownK_t, lenK_t, seqK_l, seqK_t, seqK_s, zipK_l, zipK_t, enuK_l, enuK_t, negK_i, iscK_t, iscK_f, tryO_nx, tryO_ret, bd_ok, bd_err, bd_bad, on_ok, on_err, on_bad, th_nx, th_ret, th_err, th_bad, boolR_ok, boolR_err, intR_ok, intR_err, noErr_ok, okIf_true, b_addI, b_subI, b_mulI, b_fdI, b_mdI, b_pwI, b_shI, c_lt, c_le, c_gt, c_ge, c_scr, c_eqI, c_neI, c_neB, c_eqB, x_lst, x_tup, x_dcs, c_inS, c_niS, c_ltS, p_dictL, p_dictT, p_lenL, p_lenT, p_lenS, p_minI, p_maxI, p_isi, p_tupL, p_tupT, p_lstL, p_lstT, p_intB, p_intI, tyD, isD, view_eq, viewF_nil, viewF_cons, vw_none, vw_val, vw_own0, isOwn, appL, viewA_nil, viewA_cons, vA_some, vA_none, after_nil, bindS, bindTg, Option.bind_some, List.map_cons, List.map_nil, List.cons_append, List.nil_append, List.set_cons_zero, List.set_cons_succ, List.getElem?_cons_zero, List.getElem?_cons_succ, List.length_cons, List.length_nil, List.isEmpty_nil, List.isEmpty_cons, ↓reduceIte, outR_nx, outR_ret, outR_err, Bool.not_true, Bool.not_false, Bool.false_and, Bool.true_and, Bool.and_true, Bool.and_false, Bool.or_true, Bool.true_or, Bool.false_or, Bool.or_false, Bool.false_eq_true, decide_true, decide_false, at0, at1, at2, at3, nabs, nabs_neg, ncast, beq_self_eq_true, List.replicate_succ, List.replicate_zero, Nat.reduceLT, Nat.reduceLeDiff, Nat.reduceLT, Nat.reduceAdd, Int.reduceLT, Int.reduceLE, Int.reduceNeg, Int.reduceEq, Int.reduceBEq, Int.reduceSub, Int.reduceAdd, Int.reduceMul, Int.reduceToNat, Nat.reduceSub, Nat.reduceMul, Nat.reduceEqDiff, lg, reduceCtorEq, Option.map_some, Option.map_none]
omit hl in
theorem goodBx {bs : List (Nat × Int × Int)} {w : Int} (hw : w ≤ 100) (h : bs.map (·.1) = [0, 1, 2, 3]) (h2 : ∀ r ∈ bs, lawRw w r) : goodB bs := by
  refine ⟨?_, fun r hr => ?_, ?_⟩
  · have := congrArg List.length h
    simp at this
    omega
  · obtain ⟨a1, a2, a3, a4⟩ := h2 r hr
    have m : r.1 ∈ bs.map (·.1) := List.mem_map.mpr ⟨r, hr, rfl⟩
    rw [h] at m
    simp only [List.mem_cons, List.not_mem_nil, or_false] at m
    exact ⟨by omega, by omega, a3, by omega⟩
  · rw [h]
    exact ⟨by decide, by decide, by decide, trivial⟩
omit hl in
theorem nmX_lt : ∀ {x : X}, okX x → ∀ i ∈ nmX x, i < 4
  | .c _, _, i, h => by simp [nmX] at h
  | .v j, ok, i, h => by
    simp only [nmX, List.mem_singleton] at h
    rw [h]; exact ok
  | .b o l r, ok, i, h => by
    rcases List.mem_append.mp h with z | z
    · exact nmX_lt ok.1 i z
    · exact nmX_lt ok.2 i z
omit hl in
theorem all4 {x : X} (ok : okX x) {ks : List Nat} (h : ks = [0, 1, 2, 3]) : ∀ i ∈ nmX x, i ∈ ks := fun i hi => by
  have := nmX_lt ok i hi
  rw [h]
  simp only [List.mem_cons, List.not_mem_nil, or_false]
  omega
end

/-! the law's judging -/
def isB (b : Bool) (r : R DB) : Bool := match r with | .ok (.bl c, k) => (c == b) && !k | _ => false
theorem isB_eq {b : Bool} {r : R DB} (h : isB b r = true) : r = .ok (.bl b, false) := by
  unfold isB at h
  split at h
  · rename_i c k
    simp only [Bool.and_eq_true, beq_iff_eq, Bool.not_eq_true'] at h
    rw [h.1, h.2]
  · cases h
abbrev sS (x : String) : D := .str (Str.ofString x)
abbrev vA : D := .tup [sS "var", sS "a"]
def sixD : Nat → D
  | 0 => .tup [sS "const", .int 9999]
  | n + 1 => .tup [sS "+", sixD n, vA]
def badL : List D := [.tup [sS "+", sixD 5, vA], .tup [sS "+", vA], .tup [sS "+", vA, vA, vA], .lst [sS "+", vA, vA], .tup [sS "/", vA, vA], .tup [sS "var", sS "e"], .tup [sS "var", sS ""],
  .tup [sS "var", sS "ab"], .tup [sS "const", .int 10000], .tup [sS "const", .bl true], .tup [sS "const", sS "1"], .tup [sS "const"], .non, .int 5, sS "a", .tup [], .tup [sS "+", vA, .int 5],
  .tup [sS "-", .tup [sS "var", sS "e"], vA], .tup [.int 1, vA, vA], .tup [.non, .int 5], .tup [sS "const", .int 1, .int 2]]
abbrev rwS (x : String) (a b : Int) : D := .tup [sS x, .int a, .int b]
def boxL : List D := [.non, .tup [rwS "a" 1 0], .tup [.tup [sS "a", .int 0]], .tup [rwS "e" 0 1], .tup [rwS "b" 0 1, rwS "a" 0 1], rwS "a" 0 1, .tup [rwS "a" 0 1, rwS "a" 0 1], .tup [rwS "a" 0 10000],
  .tup [.tup [sS "a", .bl false, .int 1]], .tup [rwS "ab" 0 1], .tup [.lst [sS "a", .int 0, .int 1]]]
theorem badA : (badL.all fun d => isB false (call fs 11 6 [d])) = true := by decide +kernel
theorem boxA : (boxL.all fun d => isB false (call fs 11 11 [d])) = true := by decide +kernel
theorem badE : ∀ d ∈ badL, call fs 11 6 [d] = .ok (.bl false, false) := fun d hd => isB_eq (List.all_eq_true.mp badA d hd)
theorem boxE : ∀ d ∈ boxL, call fs 11 11 [d] = .ok (.bl false, false) := fun d hd => isB_eq (List.all_eq_true.mp boxA d hd)
theorem goodE1 : call fs 11 6 [sixD 5] = .ok (.bl true, false) := isB_eq (by decide +kernel)
theorem goodE2 : call fs 11 6 [.tup [sS "const", .int (-9999)]] = .ok (.bl true, false) := isB_eq (by decide +kernel)
theorem goodE3 : call fs 11 11 [.tup []] = .ok (.bl true, false) := isB_eq (by decide +kernel)
theorem goodE4 : call fs 11 11 [.tup [rwS "a" (-9999) 9999, rwS "d" 0 0]] = .ok (.bl true, false) := isB_eq (by decide +kernel)
theorem boxLs (n : Nat) (xs : List D) : call fs (n + 1) 11 [.lst xs] = .ok (.bl false, false) := by
  rw [cs11, runF_eq rfl]
  simp only [ev_var, ev_cst, ev_tup, ev_lst, ev_bin, ev_neg, ev_cmp, ev_chain, ev_isc, ev_and, ev_or, ev_not, ev_ifx, ev_ix, ev_slA, ev_slB, ev_slC, ev_call, ev_callv, ev_prim, ev_rng, ev_srs, ev_srl, ev_dnew, ev_rev, ev_comp, ev_compf, ev_comp2, evs_nil, evs_cons, sr_seq, sr_rg1, sr_rg2, sr_zip, sr_enum, ex_set, ex_unp, ex_par2, ex_par3, ex_drop, ex_app, ex_ext, ex_rem, ex_put, ex_ret, ex_retV, ex_retN, ex_pass, ex_ife, ex_forr, ex_whl, ex_raise, ex_try, exs_nil, exs_cons, andK_t, andK_f, orK_t, orK_f, ixK_t, ixK_f, chK_t, chK_f, cvK_fn, ifK_t, ifK_f, forK_n, varK_s, rvK_s, unpK_s, ownK_t, lenK_t, seqK_l, seqK_t, seqK_s, zipK_l, zipK_t, enuK_l, enuK_t, negK_i, iscK_t, iscK_f, tryO_nx, tryO_ret, bd_ok, bd_err, bd_bad, on_ok, on_err, on_bad, th_nx, th_ret, th_err, th_bad, boolR_ok, boolR_err, intR_ok, intR_err, noErr_ok, okIf_true, b_addI, b_subI, b_mulI, b_fdI, b_mdI, b_pwI, b_shI, c_lt, c_le, c_gt, c_ge, c_scr, c_eqI, c_neI, c_neB, c_eqB, x_lst, x_tup, x_dcs, c_inS, c_niS, c_ltS, p_dictL, p_dictT, p_lenL, p_lenT, p_lenS, p_minI, p_maxI, p_isi, p_tupL, p_tupT, p_lstL, p_lstT, p_intB, p_intI, tyD, isD, view_eq, viewF_nil, viewF_cons, vw_none, vw_val, vw_own0, isOwn, appL, viewA_nil, viewA_cons, vA_some, vA_none, after_nil, bindS, bindTg, Option.bind_some, List.map_cons, List.map_nil, List.cons_append, List.nil_append, List.set_cons_zero, List.set_cons_succ, List.getElem?_cons_zero, List.getElem?_cons_succ, List.length_cons, List.length_nil, List.isEmpty_nil, List.isEmpty_cons, ↓reduceIte, outR_nx, outR_ret, outR_err, Bool.not_true, Bool.not_false, Bool.false_and, Bool.true_and, Bool.and_true, Bool.and_false, Bool.or_true, Bool.true_or, Bool.false_or, Bool.or_false, Bool.false_eq_true, decide_true, decide_false, at0, at1, at2, at3, nabs, nabs_neg, ncast, beq_self_eq_true, List.replicate_succ, List.replicate_zero, Nat.reduceLT, Nat.reduceLeDiff, Nat.reduceLT, Nat.reduceAdd, Int.reduceLT, Int.reduceLE, Int.reduceNeg, Int.reduceEq, Int.reduceBEq, Int.reduceSub, Int.reduceAdd, Int.reduceMul, Int.reduceToNat, Nat.reduceSub, Nat.reduceMul, Nat.reduceEqDiff, lg, reduceCtorEq, Option.map_some, Option.map_none, f11]
theorem cmpK_b {C : Orc} {elt : E} {tg : Tg} {own : List Nat} {ρ : Ev} {b : Bool} : ∀ {xs : List D}, (∀ x ∈ xs, cmpT C elt tg own ρ x = .ok (some (.bl b))) → cmpK C elt tg own ρ xs = .ok (.lst (xs.map fun _ => .bl b), true) := fun {xs} h => by
  have := cmpK_mp (C := C) (elt := elt) (tg := tg) (own := own) (ρ := ρ) (f := id) (g := fun _ => D.bl b) (l := xs) h
  rw [List.map_id] at this
  exact this
theorem p_anyM {α : Type} (f : α → Bool) (l : List α) : SS.prD .any [.lst (l.map fun x => D.bl (f x))] = .ok (.bl (l.any f), false) := by
  rw [p_any, bls_map]
  show R.ok (D.bl ((l.map f).any id), false) = _
  rw [List.any_map]
  rfl
theorem any_false {α : Type} (l : List α) : (l.any fun _ => false) = false := by simp
theorem extL6 (x0 x1 x2 x3 x4 x5 x7 x8 : Option (Bool × D)) (xs ys : List D) (b : Bool) (h : xs.length + ys.length ≤ szl) : extL 6 (.lst ys, b) [x0, x1, x2, x3, x4, x5, some (true, .lst xs), x7, x8] = .nx [x0, x1, x2, x3, x4, x5, some (true, .lst (xs ++ ys)), x7, x8] := by
  show (if xs.length + ys.length ≤ szl then _ else _) = _
  rw [if_pos h]
  rfl
theorem extL7 (x0 x1 x2 x3 x4 x5 x6 x8 : Option (Bool × D)) (xs ys : List D) (b : Bool) (h : xs.length + ys.length ≤ szl) : extL 7 (.lst ys, b) [x0, x1, x2, x3, x4, x5, x6, some (true, .lst xs), x8] = .nx [x0, x1, x2, x3, x4, x5, x6, some (true, .lst (xs ++ ys)), x8] := by
  show (if xs.length + ys.length ≤ szl then _ else _) = _
  rw [if_pos h]
  rfl
theorem rg5 : rgD 0 5 = [.int 0, .int 1, .int 2, .int 3, .int 4] := rfl
theorem lawJudged (x : X) (bs : List (Nat × Int × Int)) (hx : goodX x) (hb : goodB bs) : call fs 12 25 [xD x, bxD bs] = .ok (.bl true, false) := by
  have q1 := isExpr 1 x hx
  have q2 : call fs 11 11 [bxD bs] = _ := isBox 6 bs hb
  have g5 : rgOk 0 5 = true := by decide
  rw [show (12 : Nat) = 11 + 1 from rfl, cs25, runF_eq rfl]
  simp only [ev_var, ev_cst, ev_tup, ev_lst, ev_bin, ev_neg, ev_cmp, ev_chain, ev_isc, ev_and, ev_or, ev_not, ev_ifx, ev_ix, ev_slA, ev_slB, ev_slC, ev_call, ev_callv, ev_prim, ev_rng, ev_srs, ev_srl, ev_dnew, ev_rev, ev_comp, ev_compf, ev_comp2, evs_nil, evs_cons, sr_seq, sr_rg1, sr_rg2, sr_zip, sr_enum, ex_set, ex_unp, ex_par2, ex_par3, ex_drop, ex_app, ex_ext, ex_rem, ex_put, ex_ret, ex_retV, ex_retN, ex_pass, ex_ife, ex_forr, ex_whl, ex_raise, ex_try, exs_nil, exs_cons, andK_t, andK_f, orK_t, orK_f, ixK_t, ixK_f, chK_t, chK_f, cvK_fn, ifK_t, ifK_f, forK_n, varK_s, rvK_s, unpK_s, ownK_t, lenK_t, seqK_l, seqK_t, seqK_s, zipK_l, zipK_t, enuK_l, enuK_t, negK_i, iscK_t, iscK_f, tryO_nx, tryO_ret, bd_ok, bd_err, bd_bad, on_ok, on_err, on_bad, th_nx, th_ret, th_err, th_bad, boolR_ok, boolR_err, intR_ok, intR_err, noErr_ok, okIf_true, b_addI, b_subI, b_mulI, b_fdI, b_mdI, b_pwI, b_shI, c_lt, c_le, c_gt, c_ge, c_scr, c_eqI, c_neI, c_neB, c_eqB, x_lst, x_tup, x_dcs, c_inS, c_niS, c_ltS, p_dictL, p_dictT, p_lenL, p_lenT, p_lenS, p_minI, p_maxI, p_isi, p_tupL, p_tupT, p_lstL, p_lstT, p_intB, p_intI, tyD, isD, view_eq, viewF_nil, viewF_cons, vw_none, vw_val, vw_own0, isOwn, appL, viewA_nil, viewA_cons, vA_some, vA_none, after_nil, bindS, bindTg, Option.bind_some, List.map_cons, List.map_nil, List.cons_append, List.nil_append, List.set_cons_zero, List.set_cons_succ, List.getElem?_cons_zero, List.getElem?_cons_succ, List.length_cons, List.length_nil, List.isEmpty_nil, List.isEmpty_cons, ↓reduceIte, outR_nx, outR_ret, outR_err, Bool.not_true, Bool.not_false, Bool.false_and, Bool.true_and, Bool.and_true, Bool.and_false, Bool.or_true, Bool.true_or, Bool.false_or, Bool.or_false, Bool.false_eq_true, decide_true, decide_false, at0, at1, at2, at3, nabs, nabs_neg, ncast, beq_self_eq_true, List.replicate_succ, List.replicate_zero, Nat.reduceLT, Nat.reduceLeDiff, Nat.reduceLT, Nat.reduceAdd, Int.reduceLT, Int.reduceLE, Int.reduceNeg, Int.reduceEq, Int.reduceBEq, Int.reduceSub, Int.reduceAdd, Int.reduceMul, Int.reduceToNat, Nat.reduceSub, Nat.reduceMul, Nat.reduceEqDiff, lg, reduceCtorEq, Option.map_some, Option.map_none, f25, b25_11]
  simp only [ev_var, ev_cst, ev_tup, ev_lst, ev_bin, ev_neg, ev_cmp, ev_chain, ev_isc, ev_and, ev_or, ev_not, ev_ifx, ev_ix, ev_slA, ev_slB, ev_slC, ev_call, ev_callv, ev_prim, ev_rng, ev_srs, ev_srl, ev_dnew, ev_rev, ev_comp, ev_compf, ev_comp2, evs_nil, evs_cons, sr_seq, sr_rg1, sr_rg2, sr_zip, sr_enum, ex_set, ex_unp, ex_par2, ex_par3, ex_drop, ex_app, ex_ext, ex_rem, ex_put, ex_ret, ex_retV, ex_retN, ex_pass, ex_ife, ex_forr, ex_whl, ex_raise, ex_try, exs_nil, exs_cons, andK_t, andK_f, orK_t, orK_f, ixK_t, ixK_f, chK_t, chK_f, cvK_fn, ifK_t, ifK_f, forK_n, varK_s, rvK_s, unpK_s, ownK_t, lenK_t, seqK_l, seqK_t, seqK_s, zipK_l, zipK_t, enuK_l, enuK_t, negK_i, iscK_t, iscK_f, tryO_nx, tryO_ret, bd_ok, bd_err, bd_bad, on_ok, on_err, on_bad, th_nx, th_ret, th_err, th_bad, boolR_ok, boolR_err, intR_ok, intR_err, noErr_ok, okIf_true, b_addI, b_subI, b_mulI, b_fdI, b_mdI, b_pwI, b_shI, c_lt, c_le, c_gt, c_ge, c_scr, c_eqI, c_neI, c_neB, c_eqB, x_lst, x_tup, x_dcs, c_inS, c_niS, c_ltS, p_dictL, p_dictT, p_lenL, p_lenT, p_lenS, p_minI, p_maxI, p_isi, p_tupL, p_tupT, p_lstL, p_lstT, p_intB, p_intI, tyD, isD, view_eq, viewF_nil, viewF_cons, vw_none, vw_val, vw_own0, isOwn, appL, viewA_nil, viewA_cons, vA_some, vA_none, after_nil, bindS, bindTg, Option.bind_some, List.map_cons, List.map_nil, List.cons_append, List.nil_append, List.set_cons_zero, List.set_cons_succ, List.getElem?_cons_zero, List.getElem?_cons_succ, List.length_cons, List.length_nil, List.isEmpty_nil, List.isEmpty_cons, ↓reduceIte, outR_nx, outR_ret, outR_err, Bool.not_true, Bool.not_false, Bool.false_and, Bool.true_and, Bool.and_true, Bool.and_false, Bool.or_true, Bool.true_or, Bool.false_or, Bool.or_false, Bool.false_eq_true, decide_true, decide_false, at0, at1, at2, at3, nabs, nabs_neg, ncast, beq_self_eq_true, List.replicate_succ, List.replicate_zero, Nat.reduceLT, Nat.reduceLeDiff, Nat.reduceLT, Nat.reduceAdd, Int.reduceLT, Int.reduceLE, Int.reduceNeg, Int.reduceEq, Int.reduceBEq, Int.reduceSub, Int.reduceAdd, Int.reduceMul, Int.reduceToNat, Nat.reduceSub, Nat.reduceMul, Nat.reduceEqDiff, lg, reduceCtorEq, Option.map_some, Option.map_none, b25_10, g5, rg5, forS_cons, forS_nil, bodK_s]
  have six : (D.tup [sS "+", .tup [sS "+", .tup [sS "+", .tup [sS "+", .tup [sS "+", .tup [sS "const", .int 9999], vA], vA], vA], vA], vA]) = sixD 5 := rfl
  simp only [sS] at six
  rw [six]
  have e1 := goodE1
  have e2 := goodE2
  have e3 := goodE3
  have e4 := goodE4
  simp only [sS, rwS] at e1 e2 e3 e4
  simp only [ev_var, ev_cst, ev_tup, ev_lst, ev_bin, ev_neg, ev_cmp, ev_chain, ev_isc, ev_and, ev_or, ev_not, ev_ifx, ev_ix, ev_slA, ev_slB, ev_slC, ev_call, ev_callv, ev_prim, ev_rng, ev_srs, ev_srl, ev_dnew, ev_rev, ev_comp, ev_compf, ev_comp2, evs_nil, evs_cons, sr_seq, sr_rg1, sr_rg2, sr_zip, sr_enum, ex_set, ex_unp, ex_par2, ex_par3, ex_drop, ex_app, ex_ext, ex_rem, ex_put, ex_ret, ex_retV, ex_retN, ex_pass, ex_ife, ex_forr, ex_whl, ex_raise, ex_try, exs_nil, exs_cons, andK_t, andK_f, orK_t, orK_f, ixK_t, ixK_f, chK_t, chK_f, cvK_fn, ifK_t, ifK_f, forK_n, varK_s, rvK_s, unpK_s, ownK_t, lenK_t, seqK_l, seqK_t, seqK_s, zipK_l, zipK_t, enuK_l, enuK_t, negK_i, iscK_t, iscK_f, tryO_nx, tryO_ret, bd_ok, bd_err, bd_bad, on_ok, on_err, on_bad, th_nx, th_ret, th_err, th_bad, boolR_ok, boolR_err, intR_ok, intR_err, noErr_ok, okIf_true, b_addI, b_subI, b_mulI, b_fdI, b_mdI, b_pwI, b_shI, c_lt, c_le, c_gt, c_ge, c_scr, c_eqI, c_neI, c_neB, c_eqB, x_lst, x_tup, x_dcs, c_inS, c_niS, c_ltS, p_dictL, p_dictT, p_lenL, p_lenT, p_lenS, p_minI, p_maxI, p_isi, p_tupL, p_tupT, p_lstL, p_lstT, p_intB, p_intI, tyD, isD, view_eq, viewF_nil, viewF_cons, vw_none, vw_val, vw_own0, isOwn, appL, viewA_nil, viewA_cons, vA_some, vA_none, after_nil, bindS, bindTg, Option.bind_some, List.map_cons, List.map_nil, List.cons_append, List.nil_append, List.set_cons_zero, List.set_cons_succ, List.getElem?_cons_zero, List.getElem?_cons_succ, List.length_cons, List.length_nil, List.isEmpty_nil, List.isEmpty_cons, ↓reduceIte, outR_nx, outR_ret, outR_err, Bool.not_true, Bool.not_false, Bool.false_and, Bool.true_and, Bool.and_true, Bool.and_false, Bool.or_true, Bool.true_or, Bool.false_or, Bool.or_false, Bool.false_eq_true, decide_true, decide_false, at0, at1, at2, at3, nabs, nabs_neg, ncast, beq_self_eq_true, List.replicate_succ, List.replicate_zero, Nat.reduceLT, Nat.reduceLeDiff, Nat.reduceLT, Nat.reduceAdd, Int.reduceLT, Int.reduceLE, Int.reduceNeg, Int.reduceEq, Int.reduceBEq, Int.reduceSub, Int.reduceAdd, Int.reduceMul, Int.reduceToNat, Nat.reduceSub, Nat.reduceMul, Nat.reduceEqDiff, lg, reduceCtorEq, Option.map_some, Option.map_none, b25_9, q1, q2, e1, e2, e3]
  have z1 : 5 < szl := by decide
  have z2 : 6 < szl := by decide
  have z3 : 16 < szl := by decide
  have z4 : 16 ≤ szl := by decide
  have z5 : 21 ≤ szl := by decide
  have z6 : 12 ≤ szl := by decide
  simp only [ev_var, ev_cst, ev_tup, ev_lst, ev_bin, ev_neg, ev_cmp, ev_chain, ev_isc, ev_and, ev_or, ev_not, ev_ifx, ev_ix, ev_slA, ev_slB, ev_slC, ev_call, ev_callv, ev_prim, ev_rng, ev_srs, ev_srl, ev_dnew, ev_rev, ev_comp, ev_compf, ev_comp2, evs_nil, evs_cons, sr_seq, sr_rg1, sr_rg2, sr_zip, sr_enum, ex_set, ex_unp, ex_par2, ex_par3, ex_drop, ex_app, ex_ext, ex_rem, ex_put, ex_ret, ex_retV, ex_retN, ex_pass, ex_ife, ex_forr, ex_whl, ex_raise, ex_try, exs_nil, exs_cons, andK_t, andK_f, orK_t, orK_f, ixK_t, ixK_f, chK_t, chK_f, cvK_fn, ifK_t, ifK_f, forK_n, varK_s, rvK_s, unpK_s, ownK_t, lenK_t, seqK_l, seqK_t, seqK_s, zipK_l, zipK_t, enuK_l, enuK_t, negK_i, iscK_t, iscK_f, tryO_nx, tryO_ret, bd_ok, bd_err, bd_bad, on_ok, on_err, on_bad, th_nx, th_ret, th_err, th_bad, boolR_ok, boolR_err, intR_ok, intR_err, noErr_ok, okIf_true, b_addI, b_subI, b_mulI, b_fdI, b_mdI, b_pwI, b_shI, c_lt, c_le, c_gt, c_ge, c_scr, c_eqI, c_neI, c_neB, c_eqB, x_lst, x_tup, x_dcs, c_inS, c_niS, c_ltS, p_dictL, p_dictT, p_lenL, p_lenT, p_lenS, p_minI, p_maxI, p_isi, p_tupL, p_tupT, p_lstL, p_lstT, p_intB, p_intI, tyD, isD, view_eq, viewF_nil, viewF_cons, vw_none, vw_val, vw_own0, isOwn, appL, viewA_nil, viewA_cons, vA_some, vA_none, after_nil, bindS, bindTg, Option.bind_some, List.map_cons, List.map_nil, List.cons_append, List.nil_append, List.set_cons_zero, List.set_cons_succ, List.getElem?_cons_zero, List.getElem?_cons_succ, List.length_cons, List.length_nil, List.isEmpty_nil, List.isEmpty_cons, ↓reduceIte, outR_nx, outR_ret, outR_err, Bool.not_true, Bool.not_false, Bool.false_and, Bool.true_and, Bool.and_true, Bool.and_false, Bool.or_true, Bool.true_or, Bool.false_or, Bool.or_false, Bool.false_eq_true, decide_true, decide_false, at0, at1, at2, at3, nabs, nabs_neg, ncast, beq_self_eq_true, List.replicate_succ, List.replicate_zero, Nat.reduceLT, Nat.reduceLeDiff, Nat.reduceLT, Nat.reduceAdd, Int.reduceLT, Int.reduceLE, Int.reduceNeg, Int.reduceEq, Int.reduceBEq, Int.reduceSub, Int.reduceAdd, Int.reduceMul, Int.reduceToNat, Nat.reduceSub, Nat.reduceMul, Nat.reduceEqDiff, lg, reduceCtorEq, Option.map_some, Option.map_none, b25_8, e4, z1]
  simp only [ev_var, ev_cst, ev_tup, ev_lst, ev_bin, ev_neg, ev_cmp, ev_chain, ev_isc, ev_and, ev_or, ev_not, ev_ifx, ev_ix, ev_slA, ev_slB, ev_slC, ev_call, ev_callv, ev_prim, ev_rng, ev_srs, ev_srl, ev_dnew, ev_rev, ev_comp, ev_compf, ev_comp2, evs_nil, evs_cons, sr_seq, sr_rg1, sr_rg2, sr_zip, sr_enum, ex_set, ex_unp, ex_par2, ex_par3, ex_drop, ex_app, ex_ext, ex_rem, ex_put, ex_ret, ex_retV, ex_retN, ex_pass, ex_ife, ex_forr, ex_whl, ex_raise, ex_try, exs_nil, exs_cons, andK_t, andK_f, orK_t, orK_f, ixK_t, ixK_f, chK_t, chK_f, cvK_fn, ifK_t, ifK_f, forK_n, varK_s, rvK_s, unpK_s, ownK_t, lenK_t, seqK_l, seqK_t, seqK_s, zipK_l, zipK_t, enuK_l, enuK_t, negK_i, iscK_t, iscK_f, tryO_nx, tryO_ret, bd_ok, bd_err, bd_bad, on_ok, on_err, on_bad, th_nx, th_ret, th_err, th_bad, boolR_ok, boolR_err, intR_ok, intR_err, noErr_ok, okIf_true, b_addI, b_subI, b_mulI, b_fdI, b_mdI, b_pwI, b_shI, c_lt, c_le, c_gt, c_ge, c_scr, c_eqI, c_neI, c_neB, c_eqB, x_lst, x_tup, x_dcs, c_inS, c_niS, c_ltS, p_dictL, p_dictT, p_lenL, p_lenT, p_lenS, p_minI, p_maxI, p_isi, p_tupL, p_tupT, p_lstL, p_lstT, p_intB, p_intI, tyD, isD, view_eq, viewF_nil, viewF_cons, vw_none, vw_val, vw_own0, isOwn, appL, viewA_nil, viewA_cons, vA_some, vA_none, after_nil, bindS, bindTg, Option.bind_some, List.map_cons, List.map_nil, List.cons_append, List.nil_append, List.set_cons_zero, List.set_cons_succ, List.getElem?_cons_zero, List.getElem?_cons_succ, List.length_cons, List.length_nil, List.isEmpty_nil, List.isEmpty_cons, ↓reduceIte, outR_nx, outR_ret, outR_err, Bool.not_true, Bool.not_false, Bool.false_and, Bool.true_and, Bool.and_true, Bool.and_false, Bool.or_true, Bool.true_or, Bool.false_or, Bool.or_false, Bool.false_eq_true, decide_true, decide_false, at0, at1, at2, at3, nabs, nabs_neg, ncast, beq_self_eq_true, List.replicate_succ, List.replicate_zero, Nat.reduceLT, Nat.reduceLeDiff, Nat.reduceLT, Nat.reduceAdd, Int.reduceLT, Int.reduceLE, Int.reduceNeg, Int.reduceEq, Int.reduceBEq, Int.reduceSub, Int.reduceAdd, Int.reduceMul, Int.reduceToNat, Nat.reduceSub, Nat.reduceMul, Nat.reduceEqDiff, lg, reduceCtorEq, Option.map_some, Option.map_none, b25_7]
  simp only [ev_var, ev_cst, ev_tup, ev_lst, ev_bin, ev_neg, ev_cmp, ev_chain, ev_isc, ev_and, ev_or, ev_not, ev_ifx, ev_ix, ev_slA, ev_slB, ev_slC, ev_call, ev_callv, ev_prim, ev_rng, ev_srs, ev_srl, ev_dnew, ev_rev, ev_comp, ev_compf, ev_comp2, evs_nil, evs_cons, sr_seq, sr_rg1, sr_rg2, sr_zip, sr_enum, ex_set, ex_unp, ex_par2, ex_par3, ex_drop, ex_app, ex_ext, ex_rem, ex_put, ex_ret, ex_retV, ex_retN, ex_pass, ex_ife, ex_forr, ex_whl, ex_raise, ex_try, exs_nil, exs_cons, andK_t, andK_f, orK_t, orK_f, ixK_t, ixK_f, chK_t, chK_f, cvK_fn, ifK_t, ifK_f, forK_n, varK_s, rvK_s, unpK_s, ownK_t, lenK_t, seqK_l, seqK_t, seqK_s, zipK_l, zipK_t, enuK_l, enuK_t, negK_i, iscK_t, iscK_f, tryO_nx, tryO_ret, bd_ok, bd_err, bd_bad, on_ok, on_err, on_bad, th_nx, th_ret, th_err, th_bad, boolR_ok, boolR_err, intR_ok, intR_err, noErr_ok, okIf_true, b_addI, b_subI, b_mulI, b_fdI, b_mdI, b_pwI, b_shI, c_lt, c_le, c_gt, c_ge, c_scr, c_eqI, c_neI, c_neB, c_eqB, x_lst, x_tup, x_dcs, c_inS, c_niS, c_ltS, p_dictL, p_dictT, p_lenL, p_lenT, p_lenS, p_minI, p_maxI, p_isi, p_tupL, p_tupT, p_lstL, p_lstT, p_intB, p_intI, tyD, isD, view_eq, viewF_nil, viewF_cons, vw_none, vw_val, vw_own0, isOwn, appL, viewA_nil, viewA_cons, vA_some, vA_none, after_nil, bindS, bindTg, Option.bind_some, List.map_cons, List.map_nil, List.cons_append, List.nil_append, List.set_cons_zero, List.set_cons_succ, List.getElem?_cons_zero, List.getElem?_cons_succ, List.length_cons, List.length_nil, List.isEmpty_nil, List.isEmpty_cons, ↓reduceIte, outR_nx, outR_ret, outR_err, Bool.not_true, Bool.not_false, Bool.false_and, Bool.true_and, Bool.and_true, Bool.and_false, Bool.or_true, Bool.true_or, Bool.false_or, Bool.or_false, Bool.false_eq_true, decide_true, decide_false, at0, at1, at2, at3, nabs, nabs_neg, ncast, beq_self_eq_true, List.replicate_succ, List.replicate_zero, Nat.reduceLT, Nat.reduceLeDiff, Nat.reduceLT, Nat.reduceAdd, Int.reduceLT, Int.reduceLE, Int.reduceNeg, Int.reduceEq, Int.reduceBEq, Int.reduceSub, Int.reduceAdd, Int.reduceMul, Int.reduceToNat, Nat.reduceSub, Nat.reduceMul, Nat.reduceEqDiff, lg, reduceCtorEq, Option.map_some, Option.map_none, b25_6, z2, List.length_cons, List.length_nil, List.cons_append, List.nil_append]
  simp only [ev_var, ev_cst, ev_tup, ev_lst, ev_bin, ev_neg, ev_cmp, ev_chain, ev_isc, ev_and, ev_or, ev_not, ev_ifx, ev_ix, ev_slA, ev_slB, ev_slC, ev_call, ev_callv, ev_prim, ev_rng, ev_srs, ev_srl, ev_dnew, ev_rev, ev_comp, ev_compf, ev_comp2, evs_nil, evs_cons, sr_seq, sr_rg1, sr_rg2, sr_zip, sr_enum, ex_set, ex_unp, ex_par2, ex_par3, ex_drop, ex_app, ex_ext, ex_rem, ex_put, ex_ret, ex_retV, ex_retN, ex_pass, ex_ife, ex_forr, ex_whl, ex_raise, ex_try, exs_nil, exs_cons, andK_t, andK_f, orK_t, orK_f, ixK_t, ixK_f, chK_t, chK_f, cvK_fn, ifK_t, ifK_f, forK_n, varK_s, rvK_s, unpK_s, ownK_t, lenK_t, seqK_l, seqK_t, seqK_s, zipK_l, zipK_t, enuK_l, enuK_t, negK_i, iscK_t, iscK_f, tryO_nx, tryO_ret, bd_ok, bd_err, bd_bad, on_ok, on_err, on_bad, th_nx, th_ret, th_err, th_bad, boolR_ok, boolR_err, intR_ok, intR_err, noErr_ok, okIf_true, b_addI, b_subI, b_mulI, b_fdI, b_mdI, b_pwI, b_shI, c_lt, c_le, c_gt, c_ge, c_scr, c_eqI, c_neI, c_neB, c_eqB, x_lst, x_tup, x_dcs, c_inS, c_niS, c_ltS, p_dictL, p_dictT, p_lenL, p_lenT, p_lenS, p_minI, p_maxI, p_isi, p_tupL, p_tupT, p_lstL, p_lstT, p_intB, p_intI, tyD, isD, view_eq, viewF_nil, viewF_cons, vw_none, vw_val, vw_own0, isOwn, appL, viewA_nil, viewA_cons, vA_some, vA_none, after_nil, bindS, bindTg, Option.bind_some, List.map_cons, List.map_nil, List.cons_append, List.nil_append, List.set_cons_zero, List.set_cons_succ, List.getElem?_cons_zero, List.getElem?_cons_succ, List.length_cons, List.length_nil, List.isEmpty_nil, List.isEmpty_cons, ↓reduceIte, outR_nx, outR_ret, outR_err, Bool.not_true, Bool.not_false, Bool.false_and, Bool.true_and, Bool.and_true, Bool.and_false, Bool.or_true, Bool.true_or, Bool.false_or, Bool.or_false, Bool.false_eq_true, decide_true, decide_false, at0, at1, at2, at3, nabs, nabs_neg, ncast, beq_self_eq_true, List.replicate_succ, List.replicate_zero, Nat.reduceLT, Nat.reduceLeDiff, Nat.reduceLT, Nat.reduceAdd, Int.reduceLT, Int.reduceLE, Int.reduceNeg, Int.reduceEq, Int.reduceBEq, Int.reduceSub, Int.reduceAdd, Int.reduceMul, Int.reduceToNat, Nat.reduceSub, Nat.reduceMul, Nat.reduceEqDiff, lg, reduceCtorEq, Option.map_some, Option.map_none, b25_5]
  rw [extL6 _ _ _ _ _ _ _ _ _ _ _ (by decide)]
  simp only [ev_var, ev_cst, ev_tup, ev_lst, ev_bin, ev_neg, ev_cmp, ev_chain, ev_isc, ev_and, ev_or, ev_not, ev_ifx, ev_ix, ev_slA, ev_slB, ev_slC, ev_call, ev_callv, ev_prim, ev_rng, ev_srs, ev_srl, ev_dnew, ev_rev, ev_comp, ev_compf, ev_comp2, evs_nil, evs_cons, sr_seq, sr_rg1, sr_rg2, sr_zip, sr_enum, ex_set, ex_unp, ex_par2, ex_par3, ex_drop, ex_app, ex_ext, ex_rem, ex_put, ex_ret, ex_retV, ex_retN, ex_pass, ex_ife, ex_forr, ex_whl, ex_raise, ex_try, exs_nil, exs_cons, andK_t, andK_f, orK_t, orK_f, ixK_t, ixK_f, chK_t, chK_f, cvK_fn, ifK_t, ifK_f, forK_n, varK_s, rvK_s, unpK_s, ownK_t, lenK_t, seqK_l, seqK_t, seqK_s, zipK_l, zipK_t, enuK_l, enuK_t, negK_i, iscK_t, iscK_f, tryO_nx, tryO_ret, bd_ok, bd_err, bd_bad, on_ok, on_err, on_bad, th_nx, th_ret, th_err, th_bad, boolR_ok, boolR_err, intR_ok, intR_err, noErr_ok, okIf_true, b_addI, b_subI, b_mulI, b_fdI, b_mdI, b_pwI, b_shI, c_lt, c_le, c_gt, c_ge, c_scr, c_eqI, c_neI, c_neB, c_eqB, x_lst, x_tup, x_dcs, c_inS, c_niS, c_ltS, p_dictL, p_dictT, p_lenL, p_lenT, p_lenS, p_minI, p_maxI, p_isi, p_tupL, p_tupT, p_lstL, p_lstT, p_intB, p_intI, tyD, isD, view_eq, viewF_nil, viewF_cons, vw_none, vw_val, vw_own0, isOwn, appL, viewA_nil, viewA_cons, vA_some, vA_none, after_nil, bindS, bindTg, Option.bind_some, List.map_cons, List.map_nil, List.cons_append, List.nil_append, List.set_cons_zero, List.set_cons_succ, List.getElem?_cons_zero, List.getElem?_cons_succ, List.length_cons, List.length_nil, List.isEmpty_nil, List.isEmpty_cons, ↓reduceIte, outR_nx, outR_ret, outR_err, Bool.not_true, Bool.not_false, Bool.false_and, Bool.true_and, Bool.and_true, Bool.and_false, Bool.or_true, Bool.true_or, Bool.false_or, Bool.or_false, Bool.false_eq_true, decide_true, decide_false, at0, at1, at2, at3, nabs, nabs_neg, ncast, beq_self_eq_true, List.replicate_succ, List.replicate_zero, Nat.reduceLT, Nat.reduceLeDiff, Nat.reduceLT, Nat.reduceAdd, Int.reduceLT, Int.reduceLE, Int.reduceNeg, Int.reduceEq, Int.reduceBEq, Int.reduceSub, Int.reduceAdd, Int.reduceMul, Int.reduceToNat, Nat.reduceSub, Nat.reduceMul, Nat.reduceEqDiff, lg, reduceCtorEq, Option.map_some, Option.map_none, z4, List.length_cons, List.length_nil, List.cons_append, List.nil_append]
  simp only [ev_var, ev_cst, ev_tup, ev_lst, ev_bin, ev_neg, ev_cmp, ev_chain, ev_isc, ev_and, ev_or, ev_not, ev_ifx, ev_ix, ev_slA, ev_slB, ev_slC, ev_call, ev_callv, ev_prim, ev_rng, ev_srs, ev_srl, ev_dnew, ev_rev, ev_comp, ev_compf, ev_comp2, evs_nil, evs_cons, sr_seq, sr_rg1, sr_rg2, sr_zip, sr_enum, ex_set, ex_unp, ex_par2, ex_par3, ex_drop, ex_app, ex_ext, ex_rem, ex_put, ex_ret, ex_retV, ex_retN, ex_pass, ex_ife, ex_forr, ex_whl, ex_raise, ex_try, exs_nil, exs_cons, andK_t, andK_f, orK_t, orK_f, ixK_t, ixK_f, chK_t, chK_f, cvK_fn, ifK_t, ifK_f, forK_n, varK_s, rvK_s, unpK_s, ownK_t, lenK_t, seqK_l, seqK_t, seqK_s, zipK_l, zipK_t, enuK_l, enuK_t, negK_i, iscK_t, iscK_f, tryO_nx, tryO_ret, bd_ok, bd_err, bd_bad, on_ok, on_err, on_bad, th_nx, th_ret, th_err, th_bad, boolR_ok, boolR_err, intR_ok, intR_err, noErr_ok, okIf_true, b_addI, b_subI, b_mulI, b_fdI, b_mdI, b_pwI, b_shI, c_lt, c_le, c_gt, c_ge, c_scr, c_eqI, c_neI, c_neB, c_eqB, x_lst, x_tup, x_dcs, c_inS, c_niS, c_ltS, p_dictL, p_dictT, p_lenL, p_lenT, p_lenS, p_minI, p_maxI, p_isi, p_tupL, p_tupT, p_lstL, p_lstT, p_intB, p_intI, tyD, isD, view_eq, viewF_nil, viewF_cons, vw_none, vw_val, vw_own0, isOwn, appL, viewA_nil, viewA_cons, vA_some, vA_none, after_nil, bindS, bindTg, Option.bind_some, List.map_cons, List.map_nil, List.cons_append, List.nil_append, List.set_cons_zero, List.set_cons_succ, List.getElem?_cons_zero, List.getElem?_cons_succ, List.length_cons, List.length_nil, List.isEmpty_nil, List.isEmpty_cons, ↓reduceIte, outR_nx, outR_ret, outR_err, Bool.not_true, Bool.not_false, Bool.false_and, Bool.true_and, Bool.and_true, Bool.and_false, Bool.or_true, Bool.true_or, Bool.false_or, Bool.or_false, Bool.false_eq_true, decide_true, decide_false, at0, at1, at2, at3, nabs, nabs_neg, ncast, beq_self_eq_true, List.replicate_succ, List.replicate_zero, Nat.reduceLT, Nat.reduceLeDiff, Nat.reduceLT, Nat.reduceAdd, Int.reduceLT, Int.reduceLE, Int.reduceNeg, Int.reduceEq, Int.reduceBEq, Int.reduceSub, Int.reduceAdd, Int.reduceMul, Int.reduceToNat, Nat.reduceSub, Nat.reduceMul, Nat.reduceEqDiff, lg, reduceCtorEq, Option.map_some, Option.map_none, b25_4, z3, List.length_cons, List.length_nil, List.cons_append, List.nil_append]
  simp only [ev_var, ev_cst, ev_tup, ev_lst, ev_bin, ev_neg, ev_cmp, ev_chain, ev_isc, ev_and, ev_or, ev_not, ev_ifx, ev_ix, ev_slA, ev_slB, ev_slC, ev_call, ev_callv, ev_prim, ev_rng, ev_srs, ev_srl, ev_dnew, ev_rev, ev_comp, ev_compf, ev_comp2, evs_nil, evs_cons, sr_seq, sr_rg1, sr_rg2, sr_zip, sr_enum, ex_set, ex_unp, ex_par2, ex_par3, ex_drop, ex_app, ex_ext, ex_rem, ex_put, ex_ret, ex_retV, ex_retN, ex_pass, ex_ife, ex_forr, ex_whl, ex_raise, ex_try, exs_nil, exs_cons, andK_t, andK_f, orK_t, orK_f, ixK_t, ixK_f, chK_t, chK_f, cvK_fn, ifK_t, ifK_f, forK_n, varK_s, rvK_s, unpK_s, ownK_t, lenK_t, seqK_l, seqK_t, seqK_s, zipK_l, zipK_t, enuK_l, enuK_t, negK_i, iscK_t, iscK_f, tryO_nx, tryO_ret, bd_ok, bd_err, bd_bad, on_ok, on_err, on_bad, th_nx, th_ret, th_err, th_bad, boolR_ok, boolR_err, intR_ok, intR_err, noErr_ok, okIf_true, b_addI, b_subI, b_mulI, b_fdI, b_mdI, b_pwI, b_shI, c_lt, c_le, c_gt, c_ge, c_scr, c_eqI, c_neI, c_neB, c_eqB, x_lst, x_tup, x_dcs, c_inS, c_niS, c_ltS, p_dictL, p_dictT, p_lenL, p_lenT, p_lenS, p_minI, p_maxI, p_isi, p_tupL, p_tupT, p_lstL, p_lstT, p_intB, p_intI, tyD, isD, view_eq, viewF_nil, viewF_cons, vw_none, vw_val, vw_own0, isOwn, appL, viewA_nil, viewA_cons, vA_some, vA_none, after_nil, bindS, bindTg, Option.bind_some, List.map_cons, List.map_nil, List.cons_append, List.nil_append, List.set_cons_zero, List.set_cons_succ, List.getElem?_cons_zero, List.getElem?_cons_succ, List.length_cons, List.length_nil, List.isEmpty_nil, List.isEmpty_cons, ↓reduceIte, outR_nx, outR_ret, outR_err, Bool.not_true, Bool.not_false, Bool.false_and, Bool.true_and, Bool.and_true, Bool.and_false, Bool.or_true, Bool.true_or, Bool.false_or, Bool.or_false, Bool.false_eq_true, decide_true, decide_false, at0, at1, at2, at3, nabs, nabs_neg, ncast, beq_self_eq_true, List.replicate_succ, List.replicate_zero, Nat.reduceLT, Nat.reduceLeDiff, Nat.reduceLT, Nat.reduceAdd, Int.reduceLT, Int.reduceLE, Int.reduceNeg, Int.reduceEq, Int.reduceBEq, Int.reduceSub, Int.reduceAdd, Int.reduceMul, Int.reduceToNat, Nat.reduceSub, Nat.reduceMul, Nat.reduceEqDiff, lg, reduceCtorEq, Option.map_some, Option.map_none, b25_3]
  rw [extL6 _ _ _ _ _ _ _ _ _ _ _ (by decide)]
  simp only [ev_var, ev_cst, ev_tup, ev_lst, ev_bin, ev_neg, ev_cmp, ev_chain, ev_isc, ev_and, ev_or, ev_not, ev_ifx, ev_ix, ev_slA, ev_slB, ev_slC, ev_call, ev_callv, ev_prim, ev_rng, ev_srs, ev_srl, ev_dnew, ev_rev, ev_comp, ev_compf, ev_comp2, evs_nil, evs_cons, sr_seq, sr_rg1, sr_rg2, sr_zip, sr_enum, ex_set, ex_unp, ex_par2, ex_par3, ex_drop, ex_app, ex_ext, ex_rem, ex_put, ex_ret, ex_retV, ex_retN, ex_pass, ex_ife, ex_forr, ex_whl, ex_raise, ex_try, exs_nil, exs_cons, andK_t, andK_f, orK_t, orK_f, ixK_t, ixK_f, chK_t, chK_f, cvK_fn, ifK_t, ifK_f, forK_n, varK_s, rvK_s, unpK_s, ownK_t, lenK_t, seqK_l, seqK_t, seqK_s, zipK_l, zipK_t, enuK_l, enuK_t, negK_i, iscK_t, iscK_f, tryO_nx, tryO_ret, bd_ok, bd_err, bd_bad, on_ok, on_err, on_bad, th_nx, th_ret, th_err, th_bad, boolR_ok, boolR_err, intR_ok, intR_err, noErr_ok, okIf_true, b_addI, b_subI, b_mulI, b_fdI, b_mdI, b_pwI, b_shI, c_lt, c_le, c_gt, c_ge, c_scr, c_eqI, c_neI, c_neB, c_eqB, x_lst, x_tup, x_dcs, c_inS, c_niS, c_ltS, p_dictL, p_dictT, p_lenL, p_lenT, p_lenS, p_minI, p_maxI, p_isi, p_tupL, p_tupT, p_lstL, p_lstT, p_intB, p_intI, tyD, isD, view_eq, viewF_nil, viewF_cons, vw_none, vw_val, vw_own0, isOwn, appL, viewA_nil, viewA_cons, vA_some, vA_none, after_nil, bindS, bindTg, Option.bind_some, List.map_cons, List.map_nil, List.cons_append, List.nil_append, List.set_cons_zero, List.set_cons_succ, List.getElem?_cons_zero, List.getElem?_cons_succ, List.length_cons, List.length_nil, List.isEmpty_nil, List.isEmpty_cons, ↓reduceIte, outR_nx, outR_ret, outR_err, Bool.not_true, Bool.not_false, Bool.false_and, Bool.true_and, Bool.and_true, Bool.and_false, Bool.or_true, Bool.true_or, Bool.false_or, Bool.or_false, Bool.false_eq_true, decide_true, decide_false, at0, at1, at2, at3, nabs, nabs_neg, ncast, beq_self_eq_true, List.replicate_succ, List.replicate_zero, Nat.reduceLT, Nat.reduceLeDiff, Nat.reduceLT, Nat.reduceAdd, Int.reduceLT, Int.reduceLE, Int.reduceNeg, Int.reduceEq, Int.reduceBEq, Int.reduceSub, Int.reduceAdd, Int.reduceMul, Int.reduceToNat, Nat.reduceSub, Nat.reduceMul, Nat.reduceEqDiff, lg, reduceCtorEq, Option.map_some, Option.map_none, z5, List.length_cons, List.length_nil, List.cons_append, List.nil_append]
  simp only [ev_var, ev_cst, ev_tup, ev_lst, ev_bin, ev_neg, ev_cmp, ev_chain, ev_isc, ev_and, ev_or, ev_not, ev_ifx, ev_ix, ev_slA, ev_slB, ev_slC, ev_call, ev_callv, ev_prim, ev_rng, ev_srs, ev_srl, ev_dnew, ev_rev, ev_comp, ev_compf, ev_comp2, evs_nil, evs_cons, sr_seq, sr_rg1, sr_rg2, sr_zip, sr_enum, ex_set, ex_unp, ex_par2, ex_par3, ex_drop, ex_app, ex_ext, ex_rem, ex_put, ex_ret, ex_retV, ex_retN, ex_pass, ex_ife, ex_forr, ex_whl, ex_raise, ex_try, exs_nil, exs_cons, andK_t, andK_f, orK_t, orK_f, ixK_t, ixK_f, chK_t, chK_f, cvK_fn, ifK_t, ifK_f, forK_n, varK_s, rvK_s, unpK_s, ownK_t, lenK_t, seqK_l, seqK_t, seqK_s, zipK_l, zipK_t, enuK_l, enuK_t, negK_i, iscK_t, iscK_f, tryO_nx, tryO_ret, bd_ok, bd_err, bd_bad, on_ok, on_err, on_bad, th_nx, th_ret, th_err, th_bad, boolR_ok, boolR_err, intR_ok, intR_err, noErr_ok, okIf_true, b_addI, b_subI, b_mulI, b_fdI, b_mdI, b_pwI, b_shI, c_lt, c_le, c_gt, c_ge, c_scr, c_eqI, c_neI, c_neB, c_eqB, x_lst, x_tup, x_dcs, c_inS, c_niS, c_ltS, p_dictL, p_dictT, p_lenL, p_lenT, p_lenS, p_minI, p_maxI, p_isi, p_tupL, p_tupT, p_lstL, p_lstT, p_intB, p_intI, tyD, isD, view_eq, viewF_nil, viewF_cons, vw_none, vw_val, vw_own0, isOwn, appL, viewA_nil, viewA_cons, vA_some, vA_none, after_nil, bindS, bindTg, Option.bind_some, List.map_cons, List.map_nil, List.cons_append, List.nil_append, List.set_cons_zero, List.set_cons_succ, List.getElem?_cons_zero, List.getElem?_cons_succ, List.length_cons, List.length_nil, List.isEmpty_nil, List.isEmpty_cons, ↓reduceIte, outR_nx, outR_ret, outR_err, Bool.not_true, Bool.not_false, Bool.false_and, Bool.true_and, Bool.and_true, Bool.and_false, Bool.or_true, Bool.true_or, Bool.false_or, Bool.or_false, Bool.false_eq_true, decide_true, decide_false, at0, at1, at2, at3, nabs, nabs_neg, ncast, beq_self_eq_true, List.replicate_succ, List.replicate_zero, Nat.reduceLT, Nat.reduceLeDiff, Nat.reduceLT, Nat.reduceAdd, Int.reduceLT, Int.reduceLE, Int.reduceNeg, Int.reduceEq, Int.reduceBEq, Int.reduceSub, Int.reduceAdd, Int.reduceMul, Int.reduceToNat, Nat.reduceSub, Nat.reduceMul, Nat.reduceEqDiff, lg, reduceCtorEq, Option.map_some, Option.map_none, b25_2]
  simp only [ev_var, ev_cst, ev_tup, ev_lst, ev_bin, ev_neg, ev_cmp, ev_chain, ev_isc, ev_and, ev_or, ev_not, ev_ifx, ev_ix, ev_slA, ev_slB, ev_slC, ev_call, ev_callv, ev_prim, ev_rng, ev_srs, ev_srl, ev_dnew, ev_rev, ev_comp, ev_compf, ev_comp2, evs_nil, evs_cons, sr_seq, sr_rg1, sr_rg2, sr_zip, sr_enum, ex_set, ex_unp, ex_par2, ex_par3, ex_drop, ex_app, ex_ext, ex_rem, ex_put, ex_ret, ex_retV, ex_retN, ex_pass, ex_ife, ex_forr, ex_whl, ex_raise, ex_try, exs_nil, exs_cons, andK_t, andK_f, orK_t, orK_f, ixK_t, ixK_f, chK_t, chK_f, cvK_fn, ifK_t, ifK_f, forK_n, varK_s, rvK_s, unpK_s, ownK_t, lenK_t, seqK_l, seqK_t, seqK_s, zipK_l, zipK_t, enuK_l, enuK_t, negK_i, iscK_t, iscK_f, tryO_nx, tryO_ret, bd_ok, bd_err, bd_bad, on_ok, on_err, on_bad, th_nx, th_ret, th_err, th_bad, boolR_ok, boolR_err, intR_ok, intR_err, noErr_ok, okIf_true, b_addI, b_subI, b_mulI, b_fdI, b_mdI, b_pwI, b_shI, c_lt, c_le, c_gt, c_ge, c_scr, c_eqI, c_neI, c_neB, c_eqB, x_lst, x_tup, x_dcs, c_inS, c_niS, c_ltS, p_dictL, p_dictT, p_lenL, p_lenT, p_lenS, p_minI, p_maxI, p_isi, p_tupL, p_tupT, p_lstL, p_lstT, p_intB, p_intI, tyD, isD, view_eq, viewF_nil, viewF_cons, vw_none, vw_val, vw_own0, isOwn, appL, viewA_nil, viewA_cons, vA_some, vA_none, after_nil, bindS, bindTg, Option.bind_some, List.map_cons, List.map_nil, List.cons_append, List.nil_append, List.set_cons_zero, List.set_cons_succ, List.getElem?_cons_zero, List.getElem?_cons_succ, List.length_cons, List.length_nil, List.isEmpty_nil, List.isEmpty_cons, ↓reduceIte, outR_nx, outR_ret, outR_err, Bool.not_true, Bool.not_false, Bool.false_and, Bool.true_and, Bool.and_true, Bool.and_false, Bool.or_true, Bool.true_or, Bool.false_or, Bool.or_false, Bool.false_eq_true, decide_true, decide_false, at0, at1, at2, at3, nabs, nabs_neg, ncast, beq_self_eq_true, List.replicate_succ, List.replicate_zero, Nat.reduceLT, Nat.reduceLeDiff, Nat.reduceLT, Nat.reduceAdd, Int.reduceLT, Int.reduceLE, Int.reduceNeg, Int.reduceEq, Int.reduceBEq, Int.reduceSub, Int.reduceAdd, Int.reduceMul, Int.reduceToNat, Nat.reduceSub, Nat.reduceMul, Nat.reduceEqDiff, lg, reduceCtorEq, Option.map_some, Option.map_none, b25_1]
  rw [extL7 _ _ _ _ _ _ _ _ _ _ _ (by show (7 : Nat) + 5 ≤ szl; decide)]
  simp only [ev_var, ev_cst, ev_tup, ev_lst, ev_bin, ev_neg, ev_cmp, ev_chain, ev_isc, ev_and, ev_or, ev_not, ev_ifx, ev_ix, ev_slA, ev_slB, ev_slC, ev_call, ev_callv, ev_prim, ev_rng, ev_srs, ev_srl, ev_dnew, ev_rev, ev_comp, ev_compf, ev_comp2, evs_nil, evs_cons, sr_seq, sr_rg1, sr_rg2, sr_zip, sr_enum, ex_set, ex_unp, ex_par2, ex_par3, ex_drop, ex_app, ex_ext, ex_rem, ex_put, ex_ret, ex_retV, ex_retN, ex_pass, ex_ife, ex_forr, ex_whl, ex_raise, ex_try, exs_nil, exs_cons, andK_t, andK_f, orK_t, orK_f, ixK_t, ixK_f, chK_t, chK_f, cvK_fn, ifK_t, ifK_f, forK_n, varK_s, rvK_s, unpK_s, ownK_t, lenK_t, seqK_l, seqK_t, seqK_s, zipK_l, zipK_t, enuK_l, enuK_t, negK_i, iscK_t, iscK_f, tryO_nx, tryO_ret, bd_ok, bd_err, bd_bad, on_ok, on_err, on_bad, th_nx, th_ret, th_err, th_bad, boolR_ok, boolR_err, intR_ok, intR_err, noErr_ok, okIf_true, b_addI, b_subI, b_mulI, b_fdI, b_mdI, b_pwI, b_shI, c_lt, c_le, c_gt, c_ge, c_scr, c_eqI, c_neI, c_neB, c_eqB, x_lst, x_tup, x_dcs, c_inS, c_niS, c_ltS, p_dictL, p_dictT, p_lenL, p_lenT, p_lenS, p_minI, p_maxI, p_isi, p_tupL, p_tupT, p_lstL, p_lstT, p_intB, p_intI, tyD, isD, view_eq, viewF_nil, viewF_cons, vw_none, vw_val, vw_own0, isOwn, appL, viewA_nil, viewA_cons, vA_some, vA_none, after_nil, bindS, bindTg, Option.bind_some, List.map_cons, List.map_nil, List.cons_append, List.nil_append, List.set_cons_zero, List.set_cons_succ, List.getElem?_cons_zero, List.getElem?_cons_succ, List.length_cons, List.length_nil, List.isEmpty_nil, List.isEmpty_cons, ↓reduceIte, outR_nx, outR_ret, outR_err, Bool.not_true, Bool.not_false, Bool.false_and, Bool.true_and, Bool.and_true, Bool.and_false, Bool.or_true, Bool.true_or, Bool.false_or, Bool.or_false, Bool.false_eq_true, decide_true, decide_false, at0, at1, at2, at3, nabs, nabs_neg, ncast, beq_self_eq_true, List.replicate_succ, List.replicate_zero, Nat.reduceLT, Nat.reduceLeDiff, Nat.reduceLT, Nat.reduceAdd, Int.reduceLT, Int.reduceLE, Int.reduceNeg, Int.reduceEq, Int.reduceBEq, Int.reduceSub, Int.reduceAdd, Int.reduceMul, Int.reduceToNat, Nat.reduceSub, Nat.reduceMul, Nat.reduceEqDiff, lg, reduceCtorEq, Option.map_some, Option.map_none, z6, List.length_cons, List.length_nil, List.cons_append, List.nil_append]
  simp only [ev_var, ev_cst, ev_tup, ev_lst, ev_bin, ev_neg, ev_cmp, ev_chain, ev_isc, ev_and, ev_or, ev_not, ev_ifx, ev_ix, ev_slA, ev_slB, ev_slC, ev_call, ev_callv, ev_prim, ev_rng, ev_srs, ev_srl, ev_dnew, ev_rev, ev_comp, ev_compf, ev_comp2, evs_nil, evs_cons, sr_seq, sr_rg1, sr_rg2, sr_zip, sr_enum, ex_set, ex_unp, ex_par2, ex_par3, ex_drop, ex_app, ex_ext, ex_rem, ex_put, ex_ret, ex_retV, ex_retN, ex_pass, ex_ife, ex_forr, ex_whl, ex_raise, ex_try, exs_nil, exs_cons, andK_t, andK_f, orK_t, orK_f, ixK_t, ixK_f, chK_t, chK_f, cvK_fn, ifK_t, ifK_f, forK_n, varK_s, rvK_s, unpK_s, ownK_t, lenK_t, seqK_l, seqK_t, seqK_s, zipK_l, zipK_t, enuK_l, enuK_t, negK_i, iscK_t, iscK_f, tryO_nx, tryO_ret, bd_ok, bd_err, bd_bad, on_ok, on_err, on_bad, th_nx, th_ret, th_err, th_bad, boolR_ok, boolR_err, intR_ok, intR_err, noErr_ok, okIf_true, b_addI, b_subI, b_mulI, b_fdI, b_mdI, b_pwI, b_shI, c_lt, c_le, c_gt, c_ge, c_scr, c_eqI, c_neI, c_neB, c_eqB, x_lst, x_tup, x_dcs, c_inS, c_niS, c_ltS, p_dictL, p_dictT, p_lenL, p_lenT, p_lenS, p_minI, p_maxI, p_isi, p_tupL, p_tupT, p_lstL, p_lstT, p_intB, p_intI, tyD, isD, view_eq, viewF_nil, viewF_cons, vw_none, vw_val, vw_own0, isOwn, appL, viewA_nil, viewA_cons, vA_some, vA_none, after_nil, bindS, bindTg, Option.bind_some, List.map_cons, List.map_nil, List.cons_append, List.nil_append, List.set_cons_zero, List.set_cons_succ, List.getElem?_cons_zero, List.getElem?_cons_succ, List.length_cons, List.length_nil, List.isEmpty_nil, List.isEmpty_cons, ↓reduceIte, outR_nx, outR_ret, outR_err, Bool.not_true, Bool.not_false, Bool.false_and, Bool.true_and, Bool.and_true, Bool.and_false, Bool.or_true, Bool.true_or, Bool.false_or, Bool.or_false, Bool.false_eq_true, decide_true, decide_false, at0, at1, at2, at3, nabs, nabs_neg, ncast, beq_self_eq_true, List.replicate_succ, List.replicate_zero, Nat.reduceLT, Nat.reduceLeDiff, Nat.reduceLT, Nat.reduceAdd, Int.reduceLT, Int.reduceLE, Int.reduceNeg, Int.reduceEq, Int.reduceBEq, Int.reduceSub, Int.reduceAdd, Int.reduceMul, Int.reduceToNat, Nat.reduceSub, Nat.reduceMul, Nat.reduceEqDiff, lg, reduceCtorEq, Option.map_some, Option.map_none, b25_0]
  rw [cmpK_b (b := false) fun d hd => ?_]
  · simp only [ev_var, ev_cst, ev_tup, ev_lst, ev_bin, ev_neg, ev_cmp, ev_chain, ev_isc, ev_and, ev_or, ev_not, ev_ifx, ev_ix, ev_slA, ev_slB, ev_slC, ev_call, ev_callv, ev_prim, ev_rng, ev_srs, ev_srl, ev_dnew, ev_rev, ev_comp, ev_compf, ev_comp2, evs_nil, evs_cons, sr_seq, sr_rg1, sr_rg2, sr_zip, sr_enum, ex_set, ex_unp, ex_par2, ex_par3, ex_drop, ex_app, ex_ext, ex_rem, ex_put, ex_ret, ex_retV, ex_retN, ex_pass, ex_ife, ex_forr, ex_whl, ex_raise, ex_try, exs_nil, exs_cons, andK_t, andK_f, orK_t, orK_f, ixK_t, ixK_f, chK_t, chK_f, cvK_fn, ifK_t, ifK_f, forK_n, varK_s, rvK_s, unpK_s, ownK_t, lenK_t, seqK_l, seqK_t, seqK_s, zipK_l, zipK_t, enuK_l, enuK_t, negK_i, iscK_t, iscK_f, tryO_nx, tryO_ret, bd_ok, bd_err, bd_bad, on_ok, on_err, on_bad, th_nx, th_ret, th_err, th_bad, boolR_ok, boolR_err, intR_ok, intR_err, noErr_ok, okIf_true, b_addI, b_subI, b_mulI, b_fdI, b_mdI, b_pwI, b_shI, c_lt, c_le, c_gt, c_ge, c_scr, c_eqI, c_neI, c_neB, c_eqB, x_lst, x_tup, x_dcs, c_inS, c_niS, c_ltS, p_dictL, p_dictT, p_lenL, p_lenT, p_lenS, p_minI, p_maxI, p_isi, p_tupL, p_tupT, p_lstL, p_lstT, p_intB, p_intI, tyD, isD, view_eq, viewF_nil, viewF_cons, vw_none, vw_val, vw_own0, isOwn, appL, viewA_nil, viewA_cons, vA_some, vA_none, after_nil, bindS, bindTg, Option.bind_some, List.map_cons, List.map_nil, List.cons_append, List.nil_append, List.set_cons_zero, List.set_cons_succ, List.getElem?_cons_zero, List.getElem?_cons_succ, List.length_cons, List.length_nil, List.isEmpty_nil, List.isEmpty_cons, ↓reduceIte, outR_nx, outR_ret, outR_err, Bool.not_true, Bool.not_false, Bool.false_and, Bool.true_and, Bool.and_true, Bool.and_false, Bool.or_true, Bool.true_or, Bool.false_or, Bool.or_false, Bool.false_eq_true, decide_true, decide_false, at0, at1, at2, at3, nabs, nabs_neg, ncast, beq_self_eq_true, List.replicate_succ, List.replicate_zero, Nat.reduceLT, Nat.reduceLeDiff, Nat.reduceLT, Nat.reduceAdd, Int.reduceLT, Int.reduceLE, Int.reduceNeg, Int.reduceEq, Int.reduceBEq, Int.reduceSub, Int.reduceAdd, Int.reduceMul, Int.reduceToNat, Nat.reduceSub, Nat.reduceMul, Nat.reduceEqDiff, lg, reduceCtorEq, Option.map_some, Option.map_none, p_any, bls?, Option.map_some, List.any_cons, List.any_nil, id, Bool.or_self]
    rw [cmpK_b (b := true) fun d hd => ?_]
    · simp only [ev_var, ev_cst, ev_tup, ev_lst, ev_bin, ev_neg, ev_cmp, ev_chain, ev_isc, ev_and, ev_or, ev_not, ev_ifx, ev_ix, ev_slA, ev_slB, ev_slC, ev_call, ev_callv, ev_prim, ev_rng, ev_srs, ev_srl, ev_dnew, ev_rev, ev_comp, ev_compf, ev_comp2, evs_nil, evs_cons, sr_seq, sr_rg1, sr_rg2, sr_zip, sr_enum, ex_set, ex_unp, ex_par2, ex_par3, ex_drop, ex_app, ex_ext, ex_rem, ex_put, ex_ret, ex_retV, ex_retN, ex_pass, ex_ife, ex_forr, ex_whl, ex_raise, ex_try, exs_nil, exs_cons, andK_t, andK_f, orK_t, orK_f, ixK_t, ixK_f, chK_t, chK_f, cvK_fn, ifK_t, ifK_f, forK_n, varK_s, rvK_s, unpK_s, ownK_t, lenK_t, seqK_l, seqK_t, seqK_s, zipK_l, zipK_t, enuK_l, enuK_t, negK_i, iscK_t, iscK_f, tryO_nx, tryO_ret, bd_ok, bd_err, bd_bad, on_ok, on_err, on_bad, th_nx, th_ret, th_err, th_bad, boolR_ok, boolR_err, intR_ok, intR_err, noErr_ok, okIf_true, b_addI, b_subI, b_mulI, b_fdI, b_mdI, b_pwI, b_shI, c_lt, c_le, c_gt, c_ge, c_scr, c_eqI, c_neI, c_neB, c_eqB, x_lst, x_tup, x_dcs, c_inS, c_niS, c_ltS, p_dictL, p_dictT, p_lenL, p_lenT, p_lenS, p_minI, p_maxI, p_isi, p_tupL, p_tupT, p_lstL, p_lstT, p_intB, p_intI, tyD, isD, view_eq, viewF_nil, viewF_cons, vw_none, vw_val, vw_own0, isOwn, appL, viewA_nil, viewA_cons, vA_some, vA_none, after_nil, bindS, bindTg, Option.bind_some, List.map_cons, List.map_nil, List.cons_append, List.nil_append, List.set_cons_zero, List.set_cons_succ, List.getElem?_cons_zero, List.getElem?_cons_succ, List.length_cons, List.length_nil, List.isEmpty_nil, List.isEmpty_cons, ↓reduceIte, outR_nx, outR_ret, outR_err, Bool.not_true, Bool.not_false, Bool.false_and, Bool.true_and, Bool.and_true, Bool.and_false, Bool.or_true, Bool.true_or, Bool.false_or, Bool.or_false, Bool.false_eq_true, decide_true, decide_false, at0, at1, at2, at3, nabs, nabs_neg, ncast, beq_self_eq_true, List.replicate_succ, List.replicate_zero, Nat.reduceLT, Nat.reduceLeDiff, Nat.reduceLT, Nat.reduceAdd, Int.reduceLT, Int.reduceLE, Int.reduceNeg, Int.reduceEq, Int.reduceBEq, Int.reduceSub, Int.reduceAdd, Int.reduceMul, Int.reduceToNat, Nat.reduceSub, Nat.reduceMul, Nat.reduceEqDiff, lg, reduceCtorEq, Option.map_some, Option.map_none, p_all, bls?, Option.map_some, List.all_cons, List.all_nil, id, Bool.and_self]
      rw [cmpK_b (b := false) fun d hd => ?_]
      · simp only [ev_var, ev_cst, ev_tup, ev_lst, ev_bin, ev_neg, ev_cmp, ev_chain, ev_isc, ev_and, ev_or, ev_not, ev_ifx, ev_ix, ev_slA, ev_slB, ev_slC, ev_call, ev_callv, ev_prim, ev_rng, ev_srs, ev_srl, ev_dnew, ev_rev, ev_comp, ev_compf, ev_comp2, evs_nil, evs_cons, sr_seq, sr_rg1, sr_rg2, sr_zip, sr_enum, ex_set, ex_unp, ex_par2, ex_par3, ex_drop, ex_app, ex_ext, ex_rem, ex_put, ex_ret, ex_retV, ex_retN, ex_pass, ex_ife, ex_forr, ex_whl, ex_raise, ex_try, exs_nil, exs_cons, andK_t, andK_f, orK_t, orK_f, ixK_t, ixK_f, chK_t, chK_f, cvK_fn, ifK_t, ifK_f, forK_n, varK_s, rvK_s, unpK_s, ownK_t, lenK_t, seqK_l, seqK_t, seqK_s, zipK_l, zipK_t, enuK_l, enuK_t, negK_i, iscK_t, iscK_f, tryO_nx, tryO_ret, bd_ok, bd_err, bd_bad, on_ok, on_err, on_bad, th_nx, th_ret, th_err, th_bad, boolR_ok, boolR_err, intR_ok, intR_err, noErr_ok, okIf_true, b_addI, b_subI, b_mulI, b_fdI, b_mdI, b_pwI, b_shI, c_lt, c_le, c_gt, c_ge, c_scr, c_eqI, c_neI, c_neB, c_eqB, x_lst, x_tup, x_dcs, c_inS, c_niS, c_ltS, p_dictL, p_dictT, p_lenL, p_lenT, p_lenS, p_minI, p_maxI, p_isi, p_tupL, p_tupT, p_lstL, p_lstT, p_intB, p_intI, tyD, isD, view_eq, viewF_nil, viewF_cons, vw_none, vw_val, vw_own0, isOwn, appL, viewA_nil, viewA_cons, vA_some, vA_none, after_nil, bindS, bindTg, Option.bind_some, List.map_cons, List.map_nil, List.cons_append, List.nil_append, List.set_cons_zero, List.set_cons_succ, List.getElem?_cons_zero, List.getElem?_cons_succ, List.length_cons, List.length_nil, List.isEmpty_nil, List.isEmpty_cons, ↓reduceIte, outR_nx, outR_ret, outR_err, Bool.not_true, Bool.not_false, Bool.false_and, Bool.true_and, Bool.and_true, Bool.and_false, Bool.or_true, Bool.true_or, Bool.false_or, Bool.or_false, Bool.false_eq_true, decide_true, decide_false, at0, at1, at2, at3, nabs, nabs_neg, ncast, beq_self_eq_true, List.replicate_succ, List.replicate_zero, Nat.reduceLT, Nat.reduceLeDiff, Nat.reduceLT, Nat.reduceAdd, Int.reduceLT, Int.reduceLE, Int.reduceNeg, Int.reduceEq, Int.reduceBEq, Int.reduceSub, Int.reduceAdd, Int.reduceMul, Int.reduceToNat, Nat.reduceSub, Nat.reduceMul, Nat.reduceEqDiff, lg, reduceCtorEq, Option.map_some, Option.map_none, p_any, bls?, Option.map_some, List.any_cons, List.any_nil, id, Bool.or_self]
      · rcases List.mem_cons.mp hd with e | e
        · subst e
          simp only [ev_var, ev_cst, ev_tup, ev_lst, ev_bin, ev_neg, ev_cmp, ev_chain, ev_isc, ev_and, ev_or, ev_not, ev_ifx, ev_ix, ev_slA, ev_slB, ev_slC, ev_call, ev_callv, ev_prim, ev_rng, ev_srs, ev_srl, ev_dnew, ev_rev, ev_comp, ev_compf, ev_comp2, evs_nil, evs_cons, sr_seq, sr_rg1, sr_rg2, sr_zip, sr_enum, ex_set, ex_unp, ex_par2, ex_par3, ex_drop, ex_app, ex_ext, ex_rem, ex_put, ex_ret, ex_retV, ex_retN, ex_pass, ex_ife, ex_forr, ex_whl, ex_raise, ex_try, exs_nil, exs_cons, andK_t, andK_f, orK_t, orK_f, ixK_t, ixK_f, chK_t, chK_f, cvK_fn, ifK_t, ifK_f, forK_n, varK_s, rvK_s, unpK_s, ownK_t, lenK_t, seqK_l, seqK_t, seqK_s, zipK_l, zipK_t, enuK_l, enuK_t, negK_i, iscK_t, iscK_f, tryO_nx, tryO_ret, bd_ok, bd_err, bd_bad, on_ok, on_err, on_bad, th_nx, th_ret, th_err, th_bad, boolR_ok, boolR_err, intR_ok, intR_err, noErr_ok, okIf_true, b_addI, b_subI, b_mulI, b_fdI, b_mdI, b_pwI, b_shI, c_lt, c_le, c_gt, c_ge, c_scr, c_eqI, c_neI, c_neB, c_eqB, x_lst, x_tup, x_dcs, c_inS, c_niS, c_ltS, p_dictL, p_dictT, p_lenL, p_lenT, p_lenS, p_minI, p_maxI, p_isi, p_tupL, p_tupT, p_lstL, p_lstT, p_intB, p_intI, tyD, isD, view_eq, viewF_nil, viewF_cons, vw_none, vw_val, vw_own0, isOwn, appL, viewA_nil, viewA_cons, vA_some, vA_none, after_nil, bindS, bindTg, Option.bind_some, List.map_cons, List.map_nil, List.cons_append, List.nil_append, List.set_cons_zero, List.set_cons_succ, List.getElem?_cons_zero, List.getElem?_cons_succ, List.length_cons, List.length_nil, List.isEmpty_nil, List.isEmpty_cons, ↓reduceIte, outR_nx, outR_ret, outR_err, Bool.not_true, Bool.not_false, Bool.false_and, Bool.true_and, Bool.and_true, Bool.and_false, Bool.or_true, Bool.true_or, Bool.false_or, Bool.or_false, Bool.false_eq_true, decide_true, decide_false, at0, at1, at2, at3, nabs, nabs_neg, ncast, beq_self_eq_true, List.replicate_succ, List.replicate_zero, Nat.reduceLT, Nat.reduceLeDiff, Nat.reduceLT, Nat.reduceAdd, Int.reduceLT, Int.reduceLE, Int.reduceNeg, Int.reduceEq, Int.reduceBEq, Int.reduceSub, Int.reduceAdd, Int.reduceMul, Int.reduceToNat, Nat.reduceSub, Nat.reduceMul, Nat.reduceEqDiff, lg, reduceCtorEq, Option.map_some, Option.map_none, cmpT, wipeE, boxLs]
        · have q := boxE d e
          simp only [ev_var, ev_cst, ev_tup, ev_lst, ev_bin, ev_neg, ev_cmp, ev_chain, ev_isc, ev_and, ev_or, ev_not, ev_ifx, ev_ix, ev_slA, ev_slB, ev_slC, ev_call, ev_callv, ev_prim, ev_rng, ev_srs, ev_srl, ev_dnew, ev_rev, ev_comp, ev_compf, ev_comp2, evs_nil, evs_cons, sr_seq, sr_rg1, sr_rg2, sr_zip, sr_enum, ex_set, ex_unp, ex_par2, ex_par3, ex_drop, ex_app, ex_ext, ex_rem, ex_put, ex_ret, ex_retV, ex_retN, ex_pass, ex_ife, ex_forr, ex_whl, ex_raise, ex_try, exs_nil, exs_cons, andK_t, andK_f, orK_t, orK_f, ixK_t, ixK_f, chK_t, chK_f, cvK_fn, ifK_t, ifK_f, forK_n, varK_s, rvK_s, unpK_s, ownK_t, lenK_t, seqK_l, seqK_t, seqK_s, zipK_l, zipK_t, enuK_l, enuK_t, negK_i, iscK_t, iscK_f, tryO_nx, tryO_ret, bd_ok, bd_err, bd_bad, on_ok, on_err, on_bad, th_nx, th_ret, th_err, th_bad, boolR_ok, boolR_err, intR_ok, intR_err, noErr_ok, okIf_true, b_addI, b_subI, b_mulI, b_fdI, b_mdI, b_pwI, b_shI, c_lt, c_le, c_gt, c_ge, c_scr, c_eqI, c_neI, c_neB, c_eqB, x_lst, x_tup, x_dcs, c_inS, c_niS, c_ltS, p_dictL, p_dictT, p_lenL, p_lenT, p_lenS, p_minI, p_maxI, p_isi, p_tupL, p_tupT, p_lstL, p_lstT, p_intB, p_intI, tyD, isD, view_eq, viewF_nil, viewF_cons, vw_none, vw_val, vw_own0, isOwn, appL, viewA_nil, viewA_cons, vA_some, vA_none, after_nil, bindS, bindTg, Option.bind_some, List.map_cons, List.map_nil, List.cons_append, List.nil_append, List.set_cons_zero, List.set_cons_succ, List.getElem?_cons_zero, List.getElem?_cons_succ, List.length_cons, List.length_nil, List.isEmpty_nil, List.isEmpty_cons, ↓reduceIte, outR_nx, outR_ret, outR_err, Bool.not_true, Bool.not_false, Bool.false_and, Bool.true_and, Bool.and_true, Bool.and_false, Bool.or_true, Bool.true_or, Bool.false_or, Bool.or_false, Bool.false_eq_true, decide_true, decide_false, at0, at1, at2, at3, nabs, nabs_neg, ncast, beq_self_eq_true, List.replicate_succ, List.replicate_zero, Nat.reduceLT, Nat.reduceLeDiff, Nat.reduceLT, Nat.reduceAdd, Int.reduceLT, Int.reduceLE, Int.reduceNeg, Int.reduceEq, Int.reduceBEq, Int.reduceSub, Int.reduceAdd, Int.reduceMul, Int.reduceToNat, Nat.reduceSub, Nat.reduceMul, Nat.reduceEqDiff, lg, reduceCtorEq, Option.map_some, Option.map_none, cmpT, wipeE, q]
    · have e : d = .bl true := by simpa using hd
      subst e
      simp only [ev_var, ev_cst, ev_tup, ev_lst, ev_bin, ev_neg, ev_cmp, ev_chain, ev_isc, ev_and, ev_or, ev_not, ev_ifx, ev_ix, ev_slA, ev_slB, ev_slC, ev_call, ev_callv, ev_prim, ev_rng, ev_srs, ev_srl, ev_dnew, ev_rev, ev_comp, ev_compf, ev_comp2, evs_nil, evs_cons, sr_seq, sr_rg1, sr_rg2, sr_zip, sr_enum, ex_set, ex_unp, ex_par2, ex_par3, ex_drop, ex_app, ex_ext, ex_rem, ex_put, ex_ret, ex_retV, ex_retN, ex_pass, ex_ife, ex_forr, ex_whl, ex_raise, ex_try, exs_nil, exs_cons, andK_t, andK_f, orK_t, orK_f, ixK_t, ixK_f, chK_t, chK_f, cvK_fn, ifK_t, ifK_f, forK_n, varK_s, rvK_s, unpK_s, ownK_t, lenK_t, seqK_l, seqK_t, seqK_s, zipK_l, zipK_t, enuK_l, enuK_t, negK_i, iscK_t, iscK_f, tryO_nx, tryO_ret, bd_ok, bd_err, bd_bad, on_ok, on_err, on_bad, th_nx, th_ret, th_err, th_bad, boolR_ok, boolR_err, intR_ok, intR_err, noErr_ok, okIf_true, b_addI, b_subI, b_mulI, b_fdI, b_mdI, b_pwI, b_shI, c_lt, c_le, c_gt, c_ge, c_scr, c_eqI, c_neI, c_neB, c_eqB, x_lst, x_tup, x_dcs, c_inS, c_niS, c_ltS, p_dictL, p_dictT, p_lenL, p_lenT, p_lenS, p_minI, p_maxI, p_isi, p_tupL, p_tupT, p_lstL, p_lstT, p_intB, p_intI, tyD, isD, view_eq, viewF_nil, viewF_cons, vw_none, vw_val, vw_own0, isOwn, appL, viewA_nil, viewA_cons, vA_some, vA_none, after_nil, bindS, bindTg, Option.bind_some, List.map_cons, List.map_nil, List.cons_append, List.nil_append, List.set_cons_zero, List.set_cons_succ, List.getElem?_cons_zero, List.getElem?_cons_succ, List.length_cons, List.length_nil, List.isEmpty_nil, List.isEmpty_cons, ↓reduceIte, outR_nx, outR_ret, outR_err, Bool.not_true, Bool.not_false, Bool.false_and, Bool.true_and, Bool.and_true, Bool.and_false, Bool.or_true, Bool.true_or, Bool.false_or, Bool.or_false, Bool.false_eq_true, decide_true, decide_false, at0, at1, at2, at3, nabs, nabs_neg, ncast, beq_self_eq_true, List.replicate_succ, List.replicate_zero, Nat.reduceLT, Nat.reduceLeDiff, Nat.reduceLT, Nat.reduceAdd, Int.reduceLT, Int.reduceLE, Int.reduceNeg, Int.reduceEq, Int.reduceBEq, Int.reduceSub, Int.reduceAdd, Int.reduceMul, Int.reduceToNat, Nat.reduceSub, Nat.reduceMul, Nat.reduceEqDiff, lg, reduceCtorEq, Option.map_some, Option.map_none, cmpT, wipeE]
  · have q := badE d hd
    simp only [ev_var, ev_cst, ev_tup, ev_lst, ev_bin, ev_neg, ev_cmp, ev_chain, ev_isc, ev_and, ev_or, ev_not, ev_ifx, ev_ix, ev_slA, ev_slB, ev_slC, ev_call, ev_callv, ev_prim, ev_rng, ev_srs, ev_srl, ev_dnew, ev_rev, ev_comp, ev_compf, ev_comp2, evs_nil, evs_cons, sr_seq, sr_rg1, sr_rg2, sr_zip, sr_enum, ex_set, ex_unp, ex_par2, ex_par3, ex_drop, ex_app, ex_ext, ex_rem, ex_put, ex_ret, ex_retV, ex_retN, ex_pass, ex_ife, ex_forr, ex_whl, ex_raise, ex_try, exs_nil, exs_cons, andK_t, andK_f, orK_t, orK_f, ixK_t, ixK_f, chK_t, chK_f, cvK_fn, ifK_t, ifK_f, forK_n, varK_s, rvK_s, unpK_s, ownK_t, lenK_t, seqK_l, seqK_t, seqK_s, zipK_l, zipK_t, enuK_l, enuK_t, negK_i, iscK_t, iscK_f, tryO_nx, tryO_ret, bd_ok, bd_err, bd_bad, on_ok, on_err, on_bad, th_nx, th_ret, th_err, th_bad, boolR_ok, boolR_err, intR_ok, intR_err, noErr_ok, okIf_true, b_addI, b_subI, b_mulI, b_fdI, b_mdI, b_pwI, b_shI, c_lt, c_le, c_gt, c_ge, c_scr, c_eqI, c_neI, c_neB, c_eqB, x_lst, x_tup, x_dcs, c_inS, c_niS, c_ltS, p_dictL, p_dictT, p_lenL, p_lenT, p_lenS, p_minI, p_maxI, p_isi, p_tupL, p_tupT, p_lstL, p_lstT, p_intB, p_intI, tyD, isD, view_eq, viewF_nil, viewF_cons, vw_none, vw_val, vw_own0, isOwn, appL, viewA_nil, viewA_cons, vA_some, vA_none, after_nil, bindS, bindTg, Option.bind_some, List.map_cons, List.map_nil, List.cons_append, List.nil_append, List.set_cons_zero, List.set_cons_succ, List.getElem?_cons_zero, List.getElem?_cons_succ, List.length_cons, List.length_nil, List.isEmpty_nil, List.isEmpty_cons, ↓reduceIte, outR_nx, outR_ret, outR_err, Bool.not_true, Bool.not_false, Bool.false_and, Bool.true_and, Bool.and_true, Bool.and_false, Bool.or_true, Bool.true_or, Bool.false_or, Bool.or_false, Bool.false_eq_true, decide_true, decide_false, at0, at1, at2, at3, nabs, nabs_neg, ncast, beq_self_eq_true, List.replicate_succ, List.replicate_zero, Nat.reduceLT, Nat.reduceLeDiff, Nat.reduceLT, Nat.reduceAdd, Int.reduceLT, Int.reduceLE, Int.reduceNeg, Int.reduceEq, Int.reduceBEq, Int.reduceSub, Int.reduceAdd, Int.reduceMul, Int.reduceToNat, Nat.reduceSub, Nat.reduceMul, Nat.reduceEqDiff, lg, reduceCtorEq, Option.map_some, Option.map_none, cmpT, wipeE, q]

inductive Fa2 {α β : Type} (R : α → β → Prop) : List α → List β → Prop
  | nil : Fa2 R [] []
  | cons {a : α} {b : β} {l : List α} {m : List β} : R a b → Fa2 R l m → Fa2 R (a :: l) (b :: m)
theorem cmpK_rel {α β : Type} {C : Orc} {elt : E} {tg : Tg} {own : List Nat} {ρ : Ev} {f : α → D} {g : β → D} {R : α → β → Prop} : ∀ {l : List α}, (∀ a ∈ l, ∃ b, cmpT C elt tg own ρ (f a) = .ok (some (g b)) ∧ R a b) →
    ∃ m : List β, cmpK C elt tg own ρ (l.map f) = .ok (.lst (m.map g), true) ∧ Fa2 R l m := fun {l} h => by
  have e : ∃ m : List β, compL (cmpT C elt tg own ρ) (l.map f) = .ok (m.map g) ∧ Fa2 R l m := by
    induction l with
    | nil => exact ⟨[], rfl, .nil⟩
    | cons a r ih =>
      obtain ⟨b, e1, e2⟩ := h a List.mem_cons_self
      obtain ⟨m, e3, e4⟩ := ih fun x hx => h x (List.mem_cons_of_mem _ hx)
      refine ⟨b :: m, ?_, .cons e2 e4⟩
      rw [List.map_cons, List.map_cons]
      show (cmpT C elt tg own ρ (f a)).bind _ = _
      rw [e1, SS.R.bind_ok, e3]
      rfl
  obtain ⟨m, e1, e2⟩ := e
  refine ⟨m, ?_, e2⟩
  unfold cmpK
  rw [e1]
  rfl
/-- a point of the box -/
def ptOf (r : Nat × Int × Int) (p : Nat × Int) : Prop := p.1 = r.1 ∧ r.2.1 ≤ p.2 ∧ p.2 ≤ r.2.2
theorem ptOf_names : ∀ {bs : List (Nat × Int × Int)} {ps : List (Nat × Int)}, Fa2 ptOf bs ps → ps.map (·.1) = bs.map (·.1)
  | _, _, .nil => rfl
  | _, _, .cons h t => by rw [List.map_cons, List.map_cons, h.1, ptOf_names t]
theorem ptOf_fnd : ∀ {bs : List (Nat × Int × Int)} {ps : List (Nat × Int)} {i : Nat}, Fa2 ptOf bs ps → i ∈ bs.map (·.1) → (fnd (0, 0) bs i).1 ≤ fnd 0 ps i ∧ fnd 0 ps i ≤ (fnd (0, 0) bs i).2
  | _, _, i, .nil, h => by simp at h
  | _, _, i, .cons (a := a) (b := b) h t, hi => by
    unfold fnd
    rw [h.1]
    by_cases c : a.1 = i
    · rw [if_pos c, if_pos c]; exact h.2
    · rw [if_neg c, if_neg c]
      refine ptOf_fnd t ?_
      rcases List.mem_cons.mp hi with e | e
      · exact absurd e.symm c
      · exact e
theorem ptOf_good : ∀ {bs : List (Nat × Int × Int)} {ps : List (Nat × Int)}, Fa2 ptOf bs ps → (∀ r ∈ bs, goodRw r) → ∀ p ∈ ps, goodRp p
  | _, _, .nil, _, p, hp => by simp at hp
  | _, _, .cons (a := a) (b := b) h t, hr, p, hp => by
    rcases List.mem_cons.mp hp with e | e
    · subst e
      obtain ⟨h1, h2, h3⟩ := h
      obtain ⟨g1, g2, g3, g4⟩ := hr a List.mem_cons_self
      exact ⟨by omega, by omega, by omega⟩
    · exact ptOf_good t (fun r hr' => hr r (List.mem_cons_of_mem _ hr')) p e
theorem nePr (p : Int × Int) : cmpD .ne (pr p) (pr p) = .ok false := by
  rw [c_neT]
  simp [dat, dats, eqD, eqDs, okIf]
theorem eqPr (p : Int × Int) : cmpD .eq (pr p) (pr p) = .ok true := by
  rw [c_eq]
  simp [dat, dats, eqD, eqDs, okIf]
theorem lawT (ns : List Int) (hl : ns.length ≤ 63) (hb : ∀ z ∈ ns, Builtin.Int.intBits z ≤ 1048576) : call fs 13 27 [.scr ns] = .ok (.bl true, false) := by
  have g4 : rgOk 0 4 = true := by decide
  have g3 : rgOk 0 3 = true := by decide
  rw [show (13 : Nat) = 12 + 1 from rfl, cs27, runF_eq rfl]
  simp only [ev_var, ev_cst, ev_tup, ev_lst, ev_bin, ev_neg, ev_cmp, ev_chain, ev_isc, ev_and, ev_or, ev_not, ev_ifx, ev_ix, ev_slA, ev_slB, ev_slC, ev_call, ev_callv, ev_prim, ev_rng, ev_srs, ev_srl, ev_dnew, ev_rev, ev_comp, ev_compf, ev_comp2, evs_nil, evs_cons, sr_seq, sr_rg1, sr_rg2, sr_zip, sr_enum, ex_set, ex_unp, ex_par2, ex_par3, ex_drop, ex_app, ex_ext, ex_rem, ex_put, ex_ret, ex_retV, ex_retN, ex_pass, ex_ife, ex_forr, ex_whl, ex_raise, ex_try, exs_nil, exs_cons, andK_t, andK_f, orK_t, orK_f, ixK_t, ixK_f, chK_t, chK_f, cvK_fn, ifK_t, ifK_f, forK_n, varK_s, rvK_s, unpK_s, ownK_t, lenK_t, seqK_l, seqK_t, seqK_s, zipK_l, zipK_t, enuK_l, enuK_t, negK_i, iscK_t, iscK_f, tryO_nx, tryO_ret, bd_ok, bd_err, bd_bad, on_ok, on_err, on_bad, th_nx, th_ret, th_err, th_bad, boolR_ok, boolR_err, intR_ok, intR_err, noErr_ok, okIf_true, b_addI, b_subI, b_mulI, b_fdI, b_mdI, b_pwI, b_shI, c_lt, c_le, c_gt, c_ge, c_scr, c_eqI, c_neI, c_neB, c_eqB, x_lst, x_tup, x_dcs, c_inS, c_niS, c_ltS, p_dictL, p_dictT, p_lenL, p_lenT, p_lenS, p_minI, p_maxI, p_isi, p_tupL, p_tupT, p_lstL, p_lstT, p_intB, p_intI, tyD, isD, view_eq, viewF_nil, viewF_cons, vw_none, vw_val, vw_own0, isOwn, appL, viewA_nil, viewA_cons, vA_some, vA_none, after_nil, bindS, bindTg, Option.bind_some, List.map_cons, List.map_nil, List.cons_append, List.nil_append, List.set_cons_zero, List.set_cons_succ, List.getElem?_cons_zero, List.getElem?_cons_succ, List.length_cons, List.length_nil, List.isEmpty_nil, List.isEmpty_cons, ↓reduceIte, outR_nx, outR_ret, outR_err, Bool.not_true, Bool.not_false, Bool.false_and, Bool.true_and, Bool.and_true, Bool.and_false, Bool.or_true, Bool.true_or, Bool.false_or, Bool.or_false, Bool.false_eq_true, decide_true, decide_false, at0, at1, at2, at3, nabs, nabs_neg, ncast, beq_self_eq_true, List.replicate_succ, List.replicate_zero, Nat.reduceLT, Nat.reduceLeDiff, Nat.reduceLT, Nat.reduceAdd, Int.reduceLT, Int.reduceLE, Int.reduceNeg, Int.reduceEq, Int.reduceBEq, Int.reduceSub, Int.reduceAdd, Int.reduceMul, Int.reduceToNat, Nat.reduceSub, Nat.reduceMul, Nat.reduceEqDiff, lg, reduceCtorEq, Option.map_some, Option.map_none, f27, b27_9, g4]
  obtain ⟨δ, eδ, x1, x2, x3, x4, x5, x6, x7, x8, x9, x10, rfl⟩ := forS_inv (C := call fs 12) (tg := (.nm 1)) (body := b27_8) (xs := rgD 0 4) (δ := [some (false, .scr ns), none, none, none, none, none, none, none, none, none, none])
    (fun δ => ∃ x1 x2 x3 x4 x5 x6 x7 x8 x9 x10, δ = [some (false, .scr ns), x1, x2, x3, x4, x5, x6, x7, x8, x9, x10]) (fun y hy δ ⟨x1, x2, x3, x4, x5, x6, x7, x8, x9, x10, e⟩ => by
    subst e
    obtain ⟨i, rfl, i1, i2⟩ := rgD_mem hy
    obtain ⟨x, gx, ex⟩ := lawDrawn ns hl 9 (80 * i) (by omega) (by omega)
    obtain ⟨bs, nb, lb, eb⟩ := lawBox ns hl 10 (80 * i + 60) 9 (by omega) (by omega) (by omega) (by omega)
    have gb := goodBx (by omega) nb lb
    have an := all4 gx.1 nb
    have ej := lawJudged x bs gx gb
    have er := roughRange 0 x bs gx gb an
    have el := lawR (K := dcB bs) (k := fnd (0, 0) bs) x 12 gx.1 (by have := gx.2; omega) gx.2 (fun i hi => bd_of gb (an i hi)) fun i hi => ix_dcN (fun q : Int × Int => pr q) (0, 0) (an i hi)
    have ex : call fs 12 22 [.scr ns, .int (80 * i), .int 6] = .ok (xD x, false) := ex
    have eb : call fs 12 23 [.scr ns, .int (80 * i + 60), .int 9] = .ok (bxD bs, false) := eb
    have er : call fs 12 19 [xD x, bxD bs] = .ok (pr (rgX (fnd (0, 0) bs) x), false) := er
    have sm : (80 : Int).natAbs < 18446744073709551616 := by decide
    simp only [ev_var, ev_cst, ev_tup, ev_lst, ev_bin, ev_neg, ev_cmp, ev_chain, ev_isc, ev_and, ev_or, ev_not, ev_ifx, ev_ix, ev_slA, ev_slB, ev_slC, ev_call, ev_callv, ev_prim, ev_rng, ev_srs, ev_srl, ev_dnew, ev_rev, ev_comp, ev_compf, ev_comp2, evs_nil, evs_cons, sr_seq, sr_rg1, sr_rg2, sr_zip, sr_enum, ex_set, ex_unp, ex_par2, ex_par3, ex_drop, ex_app, ex_ext, ex_rem, ex_put, ex_ret, ex_retV, ex_retN, ex_pass, ex_ife, ex_forr, ex_whl, ex_raise, ex_try, exs_nil, exs_cons, andK_t, andK_f, orK_t, orK_f, ixK_t, ixK_f, chK_t, chK_f, cvK_fn, ifK_t, ifK_f, forK_n, varK_s, rvK_s, unpK_s, ownK_t, lenK_t, seqK_l, seqK_t, seqK_s, zipK_l, zipK_t, enuK_l, enuK_t, negK_i, iscK_t, iscK_f, tryO_nx, tryO_ret, bd_ok, bd_err, bd_bad, on_ok, on_err, on_bad, th_nx, th_ret, th_err, th_bad, boolR_ok, boolR_err, intR_ok, intR_err, noErr_ok, okIf_true, b_addI, b_subI, b_mulI, b_fdI, b_mdI, b_pwI, b_shI, c_lt, c_le, c_gt, c_ge, c_scr, c_eqI, c_neI, c_neB, c_eqB, x_lst, x_tup, x_dcs, c_inS, c_niS, c_ltS, p_dictL, p_dictT, p_lenL, p_lenT, p_lenS, p_minI, p_maxI, p_isi, p_tupL, p_tupT, p_lstL, p_lstT, p_intB, p_intI, tyD, isD, view_eq, viewF_nil, viewF_cons, vw_none, vw_val, vw_own0, isOwn, appL, viewA_nil, viewA_cons, vA_some, vA_none, after_nil, bindS, bindTg, Option.bind_some, List.map_cons, List.map_nil, List.cons_append, List.nil_append, List.set_cons_zero, List.set_cons_succ, List.getElem?_cons_zero, List.getElem?_cons_succ, List.length_cons, List.length_nil, List.isEmpty_nil, List.isEmpty_cons, ↓reduceIte, outR_nx, outR_ret, outR_err, Bool.not_true, Bool.not_false, Bool.false_and, Bool.true_and, Bool.and_true, Bool.and_false, Bool.or_true, Bool.true_or, Bool.false_or, Bool.or_false, Bool.false_eq_true, decide_true, decide_false, at0, at1, at2, at3, nabs, nabs_neg, ncast, beq_self_eq_true, List.replicate_succ, List.replicate_zero, Nat.reduceLT, Nat.reduceLeDiff, Nat.reduceLT, Nat.reduceAdd, Int.reduceLT, Int.reduceLE, Int.reduceNeg, Int.reduceEq, Int.reduceBEq, Int.reduceSub, Int.reduceAdd, Int.reduceMul, Int.reduceToNat, Nat.reduceSub, Nat.reduceMul, Nat.reduceEqDiff, lg, reduceCtorEq, Option.map_some, Option.map_none, bodK_s, b27_8, ex, eb, sm]
    simp only [ev_var, ev_cst, ev_tup, ev_lst, ev_bin, ev_neg, ev_cmp, ev_chain, ev_isc, ev_and, ev_or, ev_not, ev_ifx, ev_ix, ev_slA, ev_slB, ev_slC, ev_call, ev_callv, ev_prim, ev_rng, ev_srs, ev_srl, ev_dnew, ev_rev, ev_comp, ev_compf, ev_comp2, evs_nil, evs_cons, sr_seq, sr_rg1, sr_rg2, sr_zip, sr_enum, ex_set, ex_unp, ex_par2, ex_par3, ex_drop, ex_app, ex_ext, ex_rem, ex_put, ex_ret, ex_retV, ex_retN, ex_pass, ex_ife, ex_forr, ex_whl, ex_raise, ex_try, exs_nil, exs_cons, andK_t, andK_f, orK_t, orK_f, ixK_t, ixK_f, chK_t, chK_f, cvK_fn, ifK_t, ifK_f, forK_n, varK_s, rvK_s, unpK_s, ownK_t, lenK_t, seqK_l, seqK_t, seqK_s, zipK_l, zipK_t, enuK_l, enuK_t, negK_i, iscK_t, iscK_f, tryO_nx, tryO_ret, bd_ok, bd_err, bd_bad, on_ok, on_err, on_bad, th_nx, th_ret, th_err, th_bad, boolR_ok, boolR_err, intR_ok, intR_err, noErr_ok, okIf_true, b_addI, b_subI, b_mulI, b_fdI, b_mdI, b_pwI, b_shI, c_lt, c_le, c_gt, c_ge, c_scr, c_eqI, c_neI, c_neB, c_eqB, x_lst, x_tup, x_dcs, c_inS, c_niS, c_ltS, p_dictL, p_dictT, p_lenL, p_lenT, p_lenS, p_minI, p_maxI, p_isi, p_tupL, p_tupT, p_lstL, p_lstT, p_intB, p_intI, tyD, isD, view_eq, viewF_nil, viewF_cons, vw_none, vw_val, vw_own0, isOwn, appL, viewA_nil, viewA_cons, vA_some, vA_none, after_nil, bindS, bindTg, Option.bind_some, List.map_cons, List.map_nil, List.cons_append, List.nil_append, List.set_cons_zero, List.set_cons_succ, List.getElem?_cons_zero, List.getElem?_cons_succ, List.length_cons, List.length_nil, List.isEmpty_nil, List.isEmpty_cons, ↓reduceIte, outR_nx, outR_ret, outR_err, Bool.not_true, Bool.not_false, Bool.false_and, Bool.true_and, Bool.and_true, Bool.and_false, Bool.or_true, Bool.true_or, Bool.false_or, Bool.or_false, Bool.false_eq_true, decide_true, decide_false, at0, at1, at2, at3, nabs, nabs_neg, ncast, beq_self_eq_true, List.replicate_succ, List.replicate_zero, Nat.reduceLT, Nat.reduceLeDiff, Nat.reduceLT, Nat.reduceAdd, Int.reduceLT, Int.reduceLE, Int.reduceNeg, Int.reduceEq, Int.reduceBEq, Int.reduceSub, Int.reduceAdd, Int.reduceMul, Int.reduceToNat, Nat.reduceSub, Nat.reduceMul, Nat.reduceEqDiff, lg, reduceCtorEq, Option.map_some, Option.map_none, b27_7, ej]
    simp only [ev_var, ev_cst, ev_tup, ev_lst, ev_bin, ev_neg, ev_cmp, ev_chain, ev_isc, ev_and, ev_or, ev_not, ev_ifx, ev_ix, ev_slA, ev_slB, ev_slC, ev_call, ev_callv, ev_prim, ev_rng, ev_srs, ev_srl, ev_dnew, ev_rev, ev_comp, ev_compf, ev_comp2, evs_nil, evs_cons, sr_seq, sr_rg1, sr_rg2, sr_zip, sr_enum, ex_set, ex_unp, ex_par2, ex_par3, ex_drop, ex_app, ex_ext, ex_rem, ex_put, ex_ret, ex_retV, ex_retN, ex_pass, ex_ife, ex_forr, ex_whl, ex_raise, ex_try, exs_nil, exs_cons, andK_t, andK_f, orK_t, orK_f, ixK_t, ixK_f, chK_t, chK_f, cvK_fn, ifK_t, ifK_f, forK_n, varK_s, rvK_s, unpK_s, ownK_t, lenK_t, seqK_l, seqK_t, seqK_s, zipK_l, zipK_t, enuK_l, enuK_t, negK_i, iscK_t, iscK_f, tryO_nx, tryO_ret, bd_ok, bd_err, bd_bad, on_ok, on_err, on_bad, th_nx, th_ret, th_err, th_bad, boolR_ok, boolR_err, intR_ok, intR_err, noErr_ok, okIf_true, b_addI, b_subI, b_mulI, b_fdI, b_mdI, b_pwI, b_shI, c_lt, c_le, c_gt, c_ge, c_scr, c_eqI, c_neI, c_neB, c_eqB, x_lst, x_tup, x_dcs, c_inS, c_niS, c_ltS, p_dictL, p_dictT, p_lenL, p_lenT, p_lenS, p_minI, p_maxI, p_isi, p_tupL, p_tupT, p_lstL, p_lstT, p_intB, p_intI, tyD, isD, view_eq, viewF_nil, viewF_cons, vw_none, vw_val, vw_own0, isOwn, appL, viewA_nil, viewA_cons, vA_some, vA_none, after_nil, bindS, bindTg, Option.bind_some, List.map_cons, List.map_nil, List.cons_append, List.nil_append, List.set_cons_zero, List.set_cons_succ, List.getElem?_cons_zero, List.getElem?_cons_succ, List.length_cons, List.length_nil, List.isEmpty_nil, List.isEmpty_cons, ↓reduceIte, outR_nx, outR_ret, outR_err, Bool.not_true, Bool.not_false, Bool.false_and, Bool.true_and, Bool.and_true, Bool.and_false, Bool.or_true, Bool.true_or, Bool.false_or, Bool.or_false, Bool.false_eq_true, decide_true, decide_false, at0, at1, at2, at3, nabs, nabs_neg, ncast, beq_self_eq_true, List.replicate_succ, List.replicate_zero, Nat.reduceLT, Nat.reduceLeDiff, Nat.reduceLT, Nat.reduceAdd, Int.reduceLT, Int.reduceLE, Int.reduceNeg, Int.reduceEq, Int.reduceBEq, Int.reduceSub, Int.reduceAdd, Int.reduceMul, Int.reduceToNat, Nat.reduceSub, Nat.reduceMul, Nat.reduceEqDiff, lg, reduceCtorEq, Option.map_some, Option.map_none, b27_6, er]
    rw [cmpK_mp (g := fun r => .tup [.str (nmS r.1), .tup [.int r.2.1, .int r.2.2]]) fun r hr => ?_]
    · simp only [ev_var, ev_cst, ev_tup, ev_lst, ev_bin, ev_neg, ev_cmp, ev_chain, ev_isc, ev_and, ev_or, ev_not, ev_ifx, ev_ix, ev_slA, ev_slB, ev_slC, ev_call, ev_callv, ev_prim, ev_rng, ev_srs, ev_srl, ev_dnew, ev_rev, ev_comp, ev_compf, ev_comp2, evs_nil, evs_cons, sr_seq, sr_rg1, sr_rg2, sr_zip, sr_enum, ex_set, ex_unp, ex_par2, ex_par3, ex_drop, ex_app, ex_ext, ex_rem, ex_put, ex_ret, ex_retV, ex_retN, ex_pass, ex_ife, ex_forr, ex_whl, ex_raise, ex_try, exs_nil, exs_cons, andK_t, andK_f, orK_t, orK_f, ixK_t, ixK_f, chK_t, chK_f, cvK_fn, ifK_t, ifK_f, forK_n, varK_s, rvK_s, unpK_s, ownK_t, lenK_t, seqK_l, seqK_t, seqK_s, zipK_l, zipK_t, enuK_l, enuK_t, negK_i, iscK_t, iscK_f, tryO_nx, tryO_ret, bd_ok, bd_err, bd_bad, on_ok, on_err, on_bad, th_nx, th_ret, th_err, th_bad, boolR_ok, boolR_err, intR_ok, intR_err, noErr_ok, okIf_true, b_addI, b_subI, b_mulI, b_fdI, b_mdI, b_pwI, b_shI, c_lt, c_le, c_gt, c_ge, c_scr, c_eqI, c_neI, c_neB, c_eqB, x_lst, x_tup, x_dcs, c_inS, c_niS, c_ltS, p_dictL, p_dictT, p_lenL, p_lenT, p_lenS, p_minI, p_maxI, p_isi, p_tupL, p_tupT, p_lstL, p_lstT, p_intB, p_intI, tyD, isD, view_eq, viewF_nil, viewF_cons, vw_none, vw_val, vw_own0, isOwn, appL, viewA_nil, viewA_cons, vA_some, vA_none, after_nil, bindS, bindTg, Option.bind_some, List.map_cons, List.map_nil, List.cons_append, List.nil_append, List.set_cons_zero, List.set_cons_succ, List.getElem?_cons_zero, List.getElem?_cons_succ, List.length_cons, List.length_nil, List.isEmpty_nil, List.isEmpty_cons, ↓reduceIte, outR_nx, outR_ret, outR_err, Bool.not_true, Bool.not_false, Bool.false_and, Bool.true_and, Bool.and_true, Bool.and_false, Bool.or_true, Bool.true_or, Bool.false_or, Bool.or_false, Bool.false_eq_true, decide_true, decide_false, at0, at1, at2, at3, nabs, nabs_neg, ncast, beq_self_eq_true, List.replicate_succ, List.replicate_zero, Nat.reduceLT, Nat.reduceLeDiff, Nat.reduceLT, Nat.reduceAdd, Int.reduceLT, Int.reduceLE, Int.reduceNeg, Int.reduceEq, Int.reduceBEq, Int.reduceSub, Int.reduceAdd, Int.reduceMul, Int.reduceToNat, Nat.reduceSub, Nat.reduceMul, Nat.reduceEqDiff, lg, reduceCtorEq, Option.map_some, Option.map_none, dofBx gb.2.2, el, nePr]
      simp only [ev_var, ev_cst, ev_tup, ev_lst, ev_bin, ev_neg, ev_cmp, ev_chain, ev_isc, ev_and, ev_or, ev_not, ev_ifx, ev_ix, ev_slA, ev_slB, ev_slC, ev_call, ev_callv, ev_prim, ev_rng, ev_srs, ev_srl, ev_dnew, ev_rev, ev_comp, ev_compf, ev_comp2, evs_nil, evs_cons, sr_seq, sr_rg1, sr_rg2, sr_zip, sr_enum, ex_set, ex_unp, ex_par2, ex_par3, ex_drop, ex_app, ex_ext, ex_rem, ex_put, ex_ret, ex_retV, ex_retN, ex_pass, ex_ife, ex_forr, ex_whl, ex_raise, ex_try, exs_nil, exs_cons, andK_t, andK_f, orK_t, orK_f, ixK_t, ixK_f, chK_t, chK_f, cvK_fn, ifK_t, ifK_f, forK_n, varK_s, rvK_s, unpK_s, ownK_t, lenK_t, seqK_l, seqK_t, seqK_s, zipK_l, zipK_t, enuK_l, enuK_t, negK_i, iscK_t, iscK_f, tryO_nx, tryO_ret, bd_ok, bd_err, bd_bad, on_ok, on_err, on_bad, th_nx, th_ret, th_err, th_bad, boolR_ok, boolR_err, intR_ok, intR_err, noErr_ok, okIf_true, b_addI, b_subI, b_mulI, b_fdI, b_mdI, b_pwI, b_shI, c_lt, c_le, c_gt, c_ge, c_scr, c_eqI, c_neI, c_neB, c_eqB, x_lst, x_tup, x_dcs, c_inS, c_niS, c_ltS, p_dictL, p_dictT, p_lenL, p_lenT, p_lenS, p_minI, p_maxI, p_isi, p_tupL, p_tupT, p_lstL, p_lstT, p_intB, p_intI, tyD, isD, view_eq, viewF_nil, viewF_cons, vw_none, vw_val, vw_own0, isOwn, appL, viewA_nil, viewA_cons, vA_some, vA_none, after_nil, bindS, bindTg, Option.bind_some, List.map_cons, List.map_nil, List.cons_append, List.nil_append, List.set_cons_zero, List.set_cons_succ, List.getElem?_cons_zero, List.getElem?_cons_succ, List.length_cons, List.length_nil, List.isEmpty_nil, List.isEmpty_cons, ↓reduceIte, outR_nx, outR_ret, outR_err, Bool.not_true, Bool.not_false, Bool.false_and, Bool.true_and, Bool.and_true, Bool.and_false, Bool.or_true, Bool.true_or, Bool.false_or, Bool.or_false, Bool.false_eq_true, decide_true, decide_false, at0, at1, at2, at3, nabs, nabs_neg, ncast, beq_self_eq_true, List.replicate_succ, List.replicate_zero, Nat.reduceLT, Nat.reduceLeDiff, Nat.reduceLT, Nat.reduceAdd, Int.reduceLT, Int.reduceLE, Int.reduceNeg, Int.reduceEq, Int.reduceBEq, Int.reduceSub, Int.reduceAdd, Int.reduceMul, Int.reduceToNat, Nat.reduceSub, Nat.reduceMul, Nat.reduceEqDiff, lg, reduceCtorEq, Option.map_some, Option.map_none, b27_5, g3]
      obtain ⟨δ, eδ, x5, x6, x7, x8, x9, x10, rfl⟩ := forS_inv (C := call fs 12) (tg := (.nm 5)) (body := b27_4) (xs := rgD 0 3) (δ := [some (false, .scr ns), some (false, .int i), some (false, xD x), some (false, bxD bs), x4, x5, x6, x7, x8, x9, x10])
        (fun δ => ∃ x5 x6 x7 x8 x9 x10, δ = [some (false, .scr ns), some (false, .int i), some (false, xD x), some (false, bxD bs), x4, x5, x6, x7, x8, x9, x10]) (fun y hy δ ⟨x5, x6, x7, x8, x9, x10, e⟩ => by
        subst e
        obtain ⟨j, rfl, j1, j2⟩ := rgD_mem hy
        have sm2 : (12 : Int).natAbs < 18446744073709551616 := by decide
        have sm3 : (4 : Int).natAbs < 18446744073709551616 := by decide
        simp only [ev_var, ev_cst, ev_tup, ev_lst, ev_bin, ev_neg, ev_cmp, ev_chain, ev_isc, ev_and, ev_or, ev_not, ev_ifx, ev_ix, ev_slA, ev_slB, ev_slC, ev_call, ev_callv, ev_prim, ev_rng, ev_srs, ev_srl, ev_dnew, ev_rev, ev_comp, ev_compf, ev_comp2, evs_nil, evs_cons, sr_seq, sr_rg1, sr_rg2, sr_zip, sr_enum, ex_set, ex_unp, ex_par2, ex_par3, ex_drop, ex_app, ex_ext, ex_rem, ex_put, ex_ret, ex_retV, ex_retN, ex_pass, ex_ife, ex_forr, ex_whl, ex_raise, ex_try, exs_nil, exs_cons, andK_t, andK_f, orK_t, orK_f, ixK_t, ixK_f, chK_t, chK_f, cvK_fn, ifK_t, ifK_f, forK_n, varK_s, rvK_s, unpK_s, ownK_t, lenK_t, seqK_l, seqK_t, seqK_s, zipK_l, zipK_t, enuK_l, enuK_t, negK_i, iscK_t, iscK_f, tryO_nx, tryO_ret, bd_ok, bd_err, bd_bad, on_ok, on_err, on_bad, th_nx, th_ret, th_err, th_bad, boolR_ok, boolR_err, intR_ok, intR_err, noErr_ok, okIf_true, b_addI, b_subI, b_mulI, b_fdI, b_mdI, b_pwI, b_shI, c_lt, c_le, c_gt, c_ge, c_scr, c_eqI, c_neI, c_neB, c_eqB, x_lst, x_tup, x_dcs, c_inS, c_niS, c_ltS, p_dictL, p_dictT, p_lenL, p_lenT, p_lenS, p_minI, p_maxI, p_isi, p_tupL, p_tupT, p_lstL, p_lstT, p_intB, p_intI, tyD, isD, view_eq, viewF_nil, viewF_cons, vw_none, vw_val, vw_own0, isOwn, appL, viewA_nil, viewA_cons, vA_some, vA_none, after_nil, bindS, bindTg, Option.bind_some, List.map_cons, List.map_nil, List.cons_append, List.nil_append, List.set_cons_zero, List.set_cons_succ, List.getElem?_cons_zero, List.getElem?_cons_succ, List.length_cons, List.length_nil, List.isEmpty_nil, List.isEmpty_cons, ↓reduceIte, outR_nx, outR_ret, outR_err, Bool.not_true, Bool.not_false, Bool.false_and, Bool.true_and, Bool.and_true, Bool.and_false, Bool.or_true, Bool.true_or, Bool.false_or, Bool.or_false, Bool.false_eq_true, decide_true, decide_false, at0, at1, at2, at3, nabs, nabs_neg, ncast, beq_self_eq_true, List.replicate_succ, List.replicate_zero, Nat.reduceLT, Nat.reduceLeDiff, Nat.reduceLT, Nat.reduceAdd, Int.reduceLT, Int.reduceLE, Int.reduceNeg, Int.reduceEq, Int.reduceBEq, Int.reduceSub, Int.reduceAdd, Int.reduceMul, Int.reduceToNat, Nat.reduceSub, Nat.reduceMul, Nat.reduceEqDiff, lg, reduceCtorEq, Option.map_some, Option.map_none, bodK_s, b27_4, sm2, sm3]
        simp only [ev_var, ev_cst, ev_tup, ev_lst, ev_bin, ev_neg, ev_cmp, ev_chain, ev_isc, ev_and, ev_or, ev_not, ev_ifx, ev_ix, ev_slA, ev_slB, ev_slC, ev_call, ev_callv, ev_prim, ev_rng, ev_srs, ev_srl, ev_dnew, ev_rev, ev_comp, ev_compf, ev_comp2, evs_nil, evs_cons, sr_seq, sr_rg1, sr_rg2, sr_zip, sr_enum, ex_set, ex_unp, ex_par2, ex_par3, ex_drop, ex_app, ex_ext, ex_rem, ex_put, ex_ret, ex_retV, ex_retN, ex_pass, ex_ife, ex_forr, ex_whl, ex_raise, ex_try, exs_nil, exs_cons, andK_t, andK_f, orK_t, orK_f, ixK_t, ixK_f, chK_t, chK_f, cvK_fn, ifK_t, ifK_f, forK_n, varK_s, rvK_s, unpK_s, ownK_t, lenK_t, seqK_l, seqK_t, seqK_s, zipK_l, zipK_t, enuK_l, enuK_t, negK_i, iscK_t, iscK_f, tryO_nx, tryO_ret, bd_ok, bd_err, bd_bad, on_ok, on_err, on_bad, th_nx, th_ret, th_err, th_bad, boolR_ok, boolR_err, intR_ok, intR_err, noErr_ok, okIf_true, b_addI, b_subI, b_mulI, b_fdI, b_mdI, b_pwI, b_shI, c_lt, c_le, c_gt, c_ge, c_scr, c_eqI, c_neI, c_neB, c_eqB, x_lst, x_tup, x_dcs, c_inS, c_niS, c_ltS, p_dictL, p_dictT, p_lenL, p_lenT, p_lenS, p_minI, p_maxI, p_isi, p_tupL, p_tupT, p_lstL, p_lstT, p_intB, p_intI, tyD, isD, view_eq, viewF_nil, viewF_cons, vw_none, vw_val, vw_own0, isOwn, appL, viewA_nil, viewA_cons, vA_some, vA_none, after_nil, bindS, bindTg, Option.bind_some, List.map_cons, List.map_nil, List.cons_append, List.nil_append, List.set_cons_zero, List.set_cons_succ, List.getElem?_cons_zero, List.getElem?_cons_succ, List.length_cons, List.length_nil, List.isEmpty_nil, List.isEmpty_cons, ↓reduceIte, outR_nx, outR_ret, outR_err, Bool.not_true, Bool.not_false, Bool.false_and, Bool.true_and, Bool.and_true, Bool.and_false, Bool.or_true, Bool.true_or, Bool.false_or, Bool.or_false, Bool.false_eq_true, decide_true, decide_false, at0, at1, at2, at3, nabs, nabs_neg, ncast, beq_self_eq_true, List.replicate_succ, List.replicate_zero, Nat.reduceLT, Nat.reduceLeDiff, Nat.reduceLT, Nat.reduceAdd, Int.reduceLT, Int.reduceLE, Int.reduceNeg, Int.reduceEq, Int.reduceBEq, Int.reduceSub, Int.reduceAdd, Int.reduceMul, Int.reduceToNat, Nat.reduceSub, Nat.reduceMul, Nat.reduceEqDiff, lg, reduceCtorEq, Option.map_some, Option.map_none, b27_3]
        obtain ⟨ps, ep, rel⟩ := cmpK_rel (C := call fs 12) (elt := (.tup (.cons (.var 8) (.cons (.bin .add (.var 9) (.call 20 (.cons (.var 0) (.cons (.bin .add (.var 6) (.bin .mod (.var 9) (.cst (.int (4))))) (.cons (.bin .add (.bin .sub (.var 10) (.var 9)) (.cst (.int (1)))) .nil))))) .nil)))) (tg := (.tp3 (.nm 8) (.nm 9) (.nm 10))) (own := [8, 9, 10]) (ρ := [some (.scr ns), some (.int i), some (xD x), some (bxD bs), vw [] 4 x4, some (.int j), some (.int (400 + 12 * i + 4 * j)), vw [] 7 x7, vw [] 8 x8, vw [] 9 x9, vw [] 10 x10]) (f := rwB) (g := rwP) (R := ptOf) (l := bs) fun r hr => by
          obtain ⟨nm, l, u⟩ := r
          obtain ⟨r1, r2, r3, r4⟩ := lb _ hr
          dsimp only at r1 r2 r3 r4
          have m1 := Int.emod_nonneg l (show (4 : Int) ≠ 0 by decide)
          have m2 := Int.emod_lt_of_pos l (show (0 : Int) < 4 by decide)
          obtain ⟨v, v1, v2, ev⟩ := lawPick ns hl 11 (400 + 12 * i + 4 * j + l % 4) (u - l + 1) (by omega) (by omega) (by omega)
          have ev : call fs 12 20 [.scr ns, .int (400 + 12 * i + 4 * j + l % 4), .int (u - l + 1)] = .ok (.int v, false) := ev
          refine ⟨(nm, l + v), ?_, rfl, by show l ≤ l + v; omega, by show l + v ≤ u; omega⟩
          simp only [ev_var, ev_cst, ev_tup, ev_lst, ev_bin, ev_neg, ev_cmp, ev_chain, ev_isc, ev_and, ev_or, ev_not, ev_ifx, ev_ix, ev_slA, ev_slB, ev_slC, ev_call, ev_callv, ev_prim, ev_rng, ev_srs, ev_srl, ev_dnew, ev_rev, ev_comp, ev_compf, ev_comp2, evs_nil, evs_cons, sr_seq, sr_rg1, sr_rg2, sr_zip, sr_enum, ex_set, ex_unp, ex_par2, ex_par3, ex_drop, ex_app, ex_ext, ex_rem, ex_put, ex_ret, ex_retV, ex_retN, ex_pass, ex_ife, ex_forr, ex_whl, ex_raise, ex_try, exs_nil, exs_cons, andK_t, andK_f, orK_t, orK_f, ixK_t, ixK_f, chK_t, chK_f, cvK_fn, ifK_t, ifK_f, forK_n, varK_s, rvK_s, unpK_s, ownK_t, lenK_t, seqK_l, seqK_t, seqK_s, zipK_l, zipK_t, enuK_l, enuK_t, negK_i, iscK_t, iscK_f, tryO_nx, tryO_ret, bd_ok, bd_err, bd_bad, on_ok, on_err, on_bad, th_nx, th_ret, th_err, th_bad, boolR_ok, boolR_err, intR_ok, intR_err, noErr_ok, okIf_true, b_addI, b_subI, b_mulI, b_fdI, b_mdI, b_pwI, b_shI, c_lt, c_le, c_gt, c_ge, c_scr, c_eqI, c_neI, c_neB, c_eqB, x_lst, x_tup, x_dcs, c_inS, c_niS, c_ltS, p_dictL, p_dictT, p_lenL, p_lenT, p_lenS, p_minI, p_maxI, p_isi, p_tupL, p_tupT, p_lstL, p_lstT, p_intB, p_intI, tyD, isD, view_eq, viewF_nil, viewF_cons, vw_none, vw_val, vw_own0, isOwn, appL, viewA_nil, viewA_cons, vA_some, vA_none, after_nil, bindS, bindTg, Option.bind_some, List.map_cons, List.map_nil, List.cons_append, List.nil_append, List.set_cons_zero, List.set_cons_succ, List.getElem?_cons_zero, List.getElem?_cons_succ, List.length_cons, List.length_nil, List.isEmpty_nil, List.isEmpty_cons, ↓reduceIte, outR_nx, outR_ret, outR_err, Bool.not_true, Bool.not_false, Bool.false_and, Bool.true_and, Bool.and_true, Bool.and_false, Bool.or_true, Bool.true_or, Bool.false_or, Bool.or_false, Bool.false_eq_true, decide_true, decide_false, at0, at1, at2, at3, nabs, nabs_neg, ncast, beq_self_eq_true, List.replicate_succ, List.replicate_zero, Nat.reduceLT, Nat.reduceLeDiff, Nat.reduceLT, Nat.reduceAdd, Int.reduceLT, Int.reduceLE, Int.reduceNeg, Int.reduceEq, Int.reduceBEq, Int.reduceSub, Int.reduceAdd, Int.reduceMul, Int.reduceToNat, Nat.reduceSub, Nat.reduceMul, Nat.reduceEqDiff, lg, reduceCtorEq, Option.map_some, Option.map_none, cmpT, wipeE, rwB, rwP, ev]
        have np := ptOf_names rel
        have gp : goodP ps := ⟨ptOf_good rel gb.2.1, by rw [np, nb]; exact ⟨by decide, by decide, by decide, trivial⟩⟩
        have ap := all4 gx.1 (np.trans nb)
        have hk : ∀ i ∈ nmX x, -9999 ≤ fnd 0 ps i ∧ fnd 0 ps i ≤ 9999 := fun i hi => (gp.1 _ (fnd_mem (d := (0 : Int)) (ap i hi))).2
        have v1 : call fs 12 16 [xD x, ptD ps] = .ok (.int (val (fnd 0 ps) x), false) := valueAt 0 x ps gx gp ap
        have v2 := lawV (K := dcN D.int ps) (k := fnd 0 ps) x 12 gx.1 (by have := gx.2; omega) gx.2 hk fun i hi => ix_dcN D.int 0 (ap i hi)
        obtain ⟨c1, c2⟩ := val_in (x := x) (k := fnd 0 ps) (kr := fnd (0, 0) bs) fun i hi => ptOf_fnd rel (an i hi)
        rw [ep]
        simp only [ev_var, ev_cst, ev_tup, ev_lst, ev_bin, ev_neg, ev_cmp, ev_chain, ev_isc, ev_and, ev_or, ev_not, ev_ifx, ev_ix, ev_slA, ev_slB, ev_slC, ev_call, ev_callv, ev_prim, ev_rng, ev_srs, ev_srl, ev_dnew, ev_rev, ev_comp, ev_compf, ev_comp2, evs_nil, evs_cons, sr_seq, sr_rg1, sr_rg2, sr_zip, sr_enum, ex_set, ex_unp, ex_par2, ex_par3, ex_drop, ex_app, ex_ext, ex_rem, ex_put, ex_ret, ex_retV, ex_retN, ex_pass, ex_ife, ex_forr, ex_whl, ex_raise, ex_try, exs_nil, exs_cons, andK_t, andK_f, orK_t, orK_f, ixK_t, ixK_f, chK_t, chK_f, cvK_fn, ifK_t, ifK_f, forK_n, varK_s, rvK_s, unpK_s, ownK_t, lenK_t, seqK_l, seqK_t, seqK_s, zipK_l, zipK_t, enuK_l, enuK_t, negK_i, iscK_t, iscK_f, tryO_nx, tryO_ret, bd_ok, bd_err, bd_bad, on_ok, on_err, on_bad, th_nx, th_ret, th_err, th_bad, boolR_ok, boolR_err, intR_ok, intR_err, noErr_ok, okIf_true, b_addI, b_subI, b_mulI, b_fdI, b_mdI, b_pwI, b_shI, c_lt, c_le, c_gt, c_ge, c_scr, c_eqI, c_neI, c_neB, c_eqB, x_lst, x_tup, x_dcs, c_inS, c_niS, c_ltS, p_dictL, p_dictT, p_lenL, p_lenT, p_lenS, p_minI, p_maxI, p_isi, p_tupL, p_tupT, p_lstL, p_lstT, p_intB, p_intI, tyD, isD, view_eq, viewF_nil, viewF_cons, vw_none, vw_val, vw_own0, isOwn, appL, viewA_nil, viewA_cons, vA_some, vA_none, after_nil, bindS, bindTg, Option.bind_some, List.map_cons, List.map_nil, List.cons_append, List.nil_append, List.set_cons_zero, List.set_cons_succ, List.getElem?_cons_zero, List.getElem?_cons_succ, List.length_cons, List.length_nil, List.isEmpty_nil, List.isEmpty_cons, ↓reduceIte, outR_nx, outR_ret, outR_err, Bool.not_true, Bool.not_false, Bool.false_and, Bool.true_and, Bool.and_true, Bool.and_false, Bool.or_true, Bool.true_or, Bool.false_or, Bool.or_false, Bool.false_eq_true, decide_true, decide_false, at0, at1, at2, at3, nabs, nabs_neg, ncast, beq_self_eq_true, List.replicate_succ, List.replicate_zero, Nat.reduceLT, Nat.reduceLeDiff, Nat.reduceLT, Nat.reduceAdd, Int.reduceLT, Int.reduceLE, Int.reduceNeg, Int.reduceEq, Int.reduceBEq, Int.reduceSub, Int.reduceAdd, Int.reduceMul, Int.reduceToNat, Nat.reduceSub, Nat.reduceMul, Nat.reduceEqDiff, lg, reduceCtorEq, Option.map_some, Option.map_none, b27_2, v1, dofPt gp.2, v2]
        simp only [ev_var, ev_cst, ev_tup, ev_lst, ev_bin, ev_neg, ev_cmp, ev_chain, ev_isc, ev_and, ev_or, ev_not, ev_ifx, ev_ix, ev_slA, ev_slB, ev_slC, ev_call, ev_callv, ev_prim, ev_rng, ev_srs, ev_srl, ev_dnew, ev_rev, ev_comp, ev_compf, ev_comp2, evs_nil, evs_cons, sr_seq, sr_rg1, sr_rg2, sr_zip, sr_enum, ex_set, ex_unp, ex_par2, ex_par3, ex_drop, ex_app, ex_ext, ex_rem, ex_put, ex_ret, ex_retV, ex_retN, ex_pass, ex_ife, ex_forr, ex_whl, ex_raise, ex_try, exs_nil, exs_cons, andK_t, andK_f, orK_t, orK_f, ixK_t, ixK_f, chK_t, chK_f, cvK_fn, ifK_t, ifK_f, forK_n, varK_s, rvK_s, unpK_s, ownK_t, lenK_t, seqK_l, seqK_t, seqK_s, zipK_l, zipK_t, enuK_l, enuK_t, negK_i, iscK_t, iscK_f, tryO_nx, tryO_ret, bd_ok, bd_err, bd_bad, on_ok, on_err, on_bad, th_nx, th_ret, th_err, th_bad, boolR_ok, boolR_err, intR_ok, intR_err, noErr_ok, okIf_true, b_addI, b_subI, b_mulI, b_fdI, b_mdI, b_pwI, b_shI, c_lt, c_le, c_gt, c_ge, c_scr, c_eqI, c_neI, c_neB, c_eqB, x_lst, x_tup, x_dcs, c_inS, c_niS, c_ltS, p_dictL, p_dictT, p_lenL, p_lenT, p_lenS, p_minI, p_maxI, p_isi, p_tupL, p_tupT, p_lstL, p_lstT, p_intB, p_intI, tyD, isD, view_eq, viewF_nil, viewF_cons, vw_none, vw_val, vw_own0, isOwn, appL, viewA_nil, viewA_cons, vA_some, vA_none, after_nil, bindS, bindTg, Option.bind_some, List.map_cons, List.map_nil, List.cons_append, List.nil_append, List.set_cons_zero, List.set_cons_succ, List.getElem?_cons_zero, List.getElem?_cons_succ, List.length_cons, List.length_nil, List.isEmpty_nil, List.isEmpty_cons, ↓reduceIte, outR_nx, outR_ret, outR_err, Bool.not_true, Bool.not_false, Bool.false_and, Bool.true_and, Bool.and_true, Bool.and_false, Bool.or_true, Bool.true_or, Bool.false_or, Bool.or_false, Bool.false_eq_true, decide_true, decide_false, at0, at1, at2, at3, nabs, nabs_neg, ncast, beq_self_eq_true, List.replicate_succ, List.replicate_zero, Nat.reduceLT, Nat.reduceLeDiff, Nat.reduceLT, Nat.reduceAdd, Int.reduceLT, Int.reduceLE, Int.reduceNeg, Int.reduceEq, Int.reduceBEq, Int.reduceSub, Int.reduceAdd, Int.reduceMul, Int.reduceToNat, Nat.reduceSub, Nat.reduceMul, Nat.reduceEqDiff, lg, reduceCtorEq, Option.map_some, Option.map_none, b27_1, er]
        simp only [ev_var, ev_cst, ev_tup, ev_lst, ev_bin, ev_neg, ev_cmp, ev_chain, ev_isc, ev_and, ev_or, ev_not, ev_ifx, ev_ix, ev_slA, ev_slB, ev_slC, ev_call, ev_callv, ev_prim, ev_rng, ev_srs, ev_srl, ev_dnew, ev_rev, ev_comp, ev_compf, ev_comp2, evs_nil, evs_cons, sr_seq, sr_rg1, sr_rg2, sr_zip, sr_enum, ex_set, ex_unp, ex_par2, ex_par3, ex_drop, ex_app, ex_ext, ex_rem, ex_put, ex_ret, ex_retV, ex_retN, ex_pass, ex_ife, ex_forr, ex_whl, ex_raise, ex_try, exs_nil, exs_cons, andK_t, andK_f, orK_t, orK_f, ixK_t, ixK_f, chK_t, chK_f, cvK_fn, ifK_t, ifK_f, forK_n, varK_s, rvK_s, unpK_s, ownK_t, lenK_t, seqK_l, seqK_t, seqK_s, zipK_l, zipK_t, enuK_l, enuK_t, negK_i, iscK_t, iscK_f, tryO_nx, tryO_ret, bd_ok, bd_err, bd_bad, on_ok, on_err, on_bad, th_nx, th_ret, th_err, th_bad, boolR_ok, boolR_err, intR_ok, intR_err, noErr_ok, okIf_true, b_addI, b_subI, b_mulI, b_fdI, b_mdI, b_pwI, b_shI, c_lt, c_le, c_gt, c_ge, c_scr, c_eqI, c_neI, c_neB, c_eqB, x_lst, x_tup, x_dcs, c_inS, c_niS, c_ltS, p_dictL, p_dictT, p_lenL, p_lenT, p_lenS, p_minI, p_maxI, p_isi, p_tupL, p_tupT, p_lstL, p_lstT, p_intB, p_intI, tyD, isD, view_eq, viewF_nil, viewF_cons, vw_none, vw_val, vw_own0, isOwn, appL, viewA_nil, viewA_cons, vA_some, vA_none, after_nil, bindS, bindTg, Option.bind_some, List.map_cons, List.map_nil, List.cons_append, List.nil_append, List.set_cons_zero, List.set_cons_succ, List.getElem?_cons_zero, List.getElem?_cons_succ, List.length_cons, List.length_nil, List.isEmpty_nil, List.isEmpty_cons, ↓reduceIte, outR_nx, outR_ret, outR_err, Bool.not_true, Bool.not_false, Bool.false_and, Bool.true_and, Bool.and_true, Bool.and_false, Bool.or_true, Bool.true_or, Bool.false_or, Bool.or_false, Bool.false_eq_true, decide_true, decide_false, at0, at1, at2, at3, nabs, nabs_neg, ncast, beq_self_eq_true, List.replicate_succ, List.replicate_zero, Nat.reduceLT, Nat.reduceLeDiff, Nat.reduceLT, Nat.reduceAdd, Int.reduceLT, Int.reduceLE, Int.reduceNeg, Int.reduceEq, Int.reduceBEq, Int.reduceSub, Int.reduceAdd, Int.reduceMul, Int.reduceToNat, Nat.reduceSub, Nat.reduceMul, Nat.reduceEqDiff, lg, reduceCtorEq, Option.map_some, Option.map_none, b27_0, v1, c1, c2]
        exact ⟨_, rfl, _, _, _, _, _, _, rfl⟩) ⟨_, _, _, _, _, _, rfl⟩
      rw [eδ]
      exact ⟨_, rfl, _, _, _, _, _, _, _, _, _, _, rfl⟩
    · simp only [ev_var, ev_cst, ev_tup, ev_lst, ev_bin, ev_neg, ev_cmp, ev_chain, ev_isc, ev_and, ev_or, ev_not, ev_ifx, ev_ix, ev_slA, ev_slB, ev_slC, ev_call, ev_callv, ev_prim, ev_rng, ev_srs, ev_srl, ev_dnew, ev_rev, ev_comp, ev_compf, ev_comp2, evs_nil, evs_cons, sr_seq, sr_rg1, sr_rg2, sr_zip, sr_enum, ex_set, ex_unp, ex_par2, ex_par3, ex_drop, ex_app, ex_ext, ex_rem, ex_put, ex_ret, ex_retV, ex_retN, ex_pass, ex_ife, ex_forr, ex_whl, ex_raise, ex_try, exs_nil, exs_cons, andK_t, andK_f, orK_t, orK_f, ixK_t, ixK_f, chK_t, chK_f, cvK_fn, ifK_t, ifK_f, forK_n, varK_s, rvK_s, unpK_s, ownK_t, lenK_t, seqK_l, seqK_t, seqK_s, zipK_l, zipK_t, enuK_l, enuK_t, negK_i, iscK_t, iscK_f, tryO_nx, tryO_ret, bd_ok, bd_err, bd_bad, on_ok, on_err, on_bad, th_nx, th_ret, th_err, th_bad, boolR_ok, boolR_err, intR_ok, intR_err, noErr_ok, okIf_true, b_addI, b_subI, b_mulI, b_fdI, b_mdI, b_pwI, b_shI, c_lt, c_le, c_gt, c_ge, c_scr, c_eqI, c_neI, c_neB, c_eqB, x_lst, x_tup, x_dcs, c_inS, c_niS, c_ltS, p_dictL, p_dictT, p_lenL, p_lenT, p_lenS, p_minI, p_maxI, p_isi, p_tupL, p_tupT, p_lstL, p_lstT, p_intB, p_intI, tyD, isD, view_eq, viewF_nil, viewF_cons, vw_none, vw_val, vw_own0, isOwn, appL, viewA_nil, viewA_cons, vA_some, vA_none, after_nil, bindS, bindTg, Option.bind_some, List.map_cons, List.map_nil, List.cons_append, List.nil_append, List.set_cons_zero, List.set_cons_succ, List.getElem?_cons_zero, List.getElem?_cons_succ, List.length_cons, List.length_nil, List.isEmpty_nil, List.isEmpty_cons, ↓reduceIte, outR_nx, outR_ret, outR_err, Bool.not_true, Bool.not_false, Bool.false_and, Bool.true_and, Bool.and_true, Bool.and_false, Bool.or_true, Bool.true_or, Bool.false_or, Bool.or_false, Bool.false_eq_true, decide_true, decide_false, at0, at1, at2, at3, nabs, nabs_neg, ncast, beq_self_eq_true, List.replicate_succ, List.replicate_zero, Nat.reduceLT, Nat.reduceLeDiff, Nat.reduceLT, Nat.reduceAdd, Int.reduceLT, Int.reduceLE, Int.reduceNeg, Int.reduceEq, Int.reduceBEq, Int.reduceSub, Int.reduceAdd, Int.reduceMul, Int.reduceToNat, Nat.reduceSub, Nat.reduceMul, Nat.reduceEqDiff, lg, reduceCtorEq, Option.map_some, Option.map_none, cmpT, wipeE, rwB, sl1, List.drop_succ_cons, List.drop_zero]) ⟨_, _, _, _, _, _, _, _, _, _, rfl⟩
  rw [eδ]
  have e1 := roughRange 0 (.c 5) [] ⟨by unfold okX; omega, by decide⟩ ⟨by decide, fun _ h => absurd h (by simp), trivial⟩ fun _ h => absurd h (by simp [nmX])
  have e2 := valueAt 0 (.c 5) [] ⟨by unfold okX; omega, by decide⟩ ⟨fun _ h => absurd h (by simp), trivial⟩ fun _ h => absurd h (by simp [nmX])
  have e1 : call fs 12 19 [.tup [.str "const", .int 5], .tup []] = .ok (pr (5, 5), false) := e1
  have e2 : call fs 12 16 [.tup [.str "const", .int 5], .tup []] = .ok (.int 5, false) := e2
  have e3 : cmpD .eq (.tup [.int 5, .int 5]) (.tup [.int 5, .int 5]) = .ok true := eqPr (5, 5)
  simp only [ev_var, ev_cst, ev_tup, ev_lst, ev_bin, ev_neg, ev_cmp, ev_chain, ev_isc, ev_and, ev_or, ev_not, ev_ifx, ev_ix, ev_slA, ev_slB, ev_slC, ev_call, ev_callv, ev_prim, ev_rng, ev_srs, ev_srl, ev_dnew, ev_rev, ev_comp, ev_compf, ev_comp2, evs_nil, evs_cons, sr_seq, sr_rg1, sr_rg2, sr_zip, sr_enum, ex_set, ex_unp, ex_par2, ex_par3, ex_drop, ex_app, ex_ext, ex_rem, ex_put, ex_ret, ex_retV, ex_retN, ex_pass, ex_ife, ex_forr, ex_whl, ex_raise, ex_try, exs_nil, exs_cons, andK_t, andK_f, orK_t, orK_f, ixK_t, ixK_f, chK_t, chK_f, cvK_fn, ifK_t, ifK_f, forK_n, varK_s, rvK_s, unpK_s, ownK_t, lenK_t, seqK_l, seqK_t, seqK_s, zipK_l, zipK_t, enuK_l, enuK_t, negK_i, iscK_t, iscK_f, tryO_nx, tryO_ret, bd_ok, bd_err, bd_bad, on_ok, on_err, on_bad, th_nx, th_ret, th_err, th_bad, boolR_ok, boolR_err, intR_ok, intR_err, noErr_ok, okIf_true, b_addI, b_subI, b_mulI, b_fdI, b_mdI, b_pwI, b_shI, c_lt, c_le, c_gt, c_ge, c_scr, c_eqI, c_neI, c_neB, c_eqB, x_lst, x_tup, x_dcs, c_inS, c_niS, c_ltS, p_dictL, p_dictT, p_lenL, p_lenT, p_lenS, p_minI, p_maxI, p_isi, p_tupL, p_tupT, p_lstL, p_lstT, p_intB, p_intI, tyD, isD, view_eq, viewF_nil, viewF_cons, vw_none, vw_val, vw_own0, isOwn, appL, viewA_nil, viewA_cons, vA_some, vA_none, after_nil, bindS, bindTg, Option.bind_some, List.map_cons, List.map_nil, List.cons_append, List.nil_append, List.set_cons_zero, List.set_cons_succ, List.getElem?_cons_zero, List.getElem?_cons_succ, List.length_cons, List.length_nil, List.isEmpty_nil, List.isEmpty_cons, ↓reduceIte, outR_nx, outR_ret, outR_err, Bool.not_true, Bool.not_false, Bool.false_and, Bool.true_and, Bool.and_true, Bool.and_false, Bool.or_true, Bool.true_or, Bool.false_or, Bool.or_false, Bool.false_eq_true, decide_true, decide_false, at0, at1, at2, at3, nabs, nabs_neg, ncast, beq_self_eq_true, List.replicate_succ, List.replicate_zero, Nat.reduceLT, Nat.reduceLeDiff, Nat.reduceLT, Nat.reduceAdd, Int.reduceLT, Int.reduceLE, Int.reduceNeg, Int.reduceEq, Int.reduceBEq, Int.reduceSub, Int.reduceAdd, Int.reduceMul, Int.reduceToNat, Nat.reduceSub, Nat.reduceMul, Nat.reduceEqDiff, lg, reduceCtorEq, Option.map_some, Option.map_none, e1, e2, e3]



theorem comp_ok : tb.map (compF hd) = fs.map some := by kernel_rfl
def pckH {α : Type} (l : List α) (i : Nat) (d : α) : α := if i < l.length then l.getD i d else l.getD 0 d
theorem pckH_hi {α : Type} {l : List α} {i : Nat} {d : α} (h : l.length ≤ i) (h0 : 0 < l.length) : pckH l i d = pckH l 0 d := by
  unfold pckH
  rw [if_neg (by omega), if_pos h0]
section
variable {l : PySem.W.OpenLaw} {w : World} {K : PySem.W.Frag} {h : Heap} {mg : Str → Option Value}
theorem all_mk (X : K.In h) (G : h.Ns mainGlobals mg) {fa : Addr} (hfa : mg "law" = some (.ref fa)) {a0 a1 a2 a3 a4 a5 a6 a7 a8 a9 a10 a11 a12 a13 a14 a15 a16 a17 a18 a19 a20 a21 a22 a23 a24 a25 a26 a27 c0 c1 c2  : Addr}
    {o0 q0 d0 p0 e0 r0 o1 q1 d1 p1 e1 r1 o2 q2 d2 p2 e2 r2 o3 q3 d3 p3 e3 r3 o4 q4 d4 p4 e4 r4 o5 q5 d5 p5 e5 r5 o6 q6 d6 p6 e6 r6 o7 q7 d7 p7 e7 r7 o8 q8 d8 p8 e8 r8 o9 q9 d9 p9 e9 r9 o10 q10 d10 p10 e10 r10 o11 q11 d11 p11 e11 r11 o12 q12 d12 p12 e12 r12 o13 q13 d13 p13 e13 r13 o14 q14 d14 p14 e14 r14 o15 q15 d15 p15 e15 r15 o16 q16 d16 p16 e16 r16 o17 q17 d17 p17 e17 r17 o18 q18 d18 p18 e18 r18 o19 q19 d19 p19 e19 r19 o20 q20 d20 p20 e20 r20 o21 q21 d21 p21 e21 r21 o22 q22 d22 p22 e22 r22 o23 q23 d23 p23 e23 r23 o24 q24 d24 p24 e24 r24 o25 q25 d25 p25 e25 r25 o26 q26 d26 p26 e26 r26 o27 q27 d27 p27 e27 r27 : Value} {u0 v0 u1 v1 u2 v2 u3 v3 u4 v4 u5 v5 u6 v6 u7 v7 u8 v8 u9 v9 u10 v10 u11 v11 u12 v12 u13 v13 u14 v14 u15 v15 u16 v16 u17 v17 u18 v18 u19 v19 u20 v20 u21 v21 u22 v22 u23 v23 u24 v24 u25 v25 u26 v26 u27 v27 : Option Addr} {w0 w1 w2 w3 w4 w5 w6 w7 w8 w9 w10 w11 w12 w13 w14 w15 w16 w17 w18 w19 w20 w21 w22 w23 w24 w25 w26 w27 : Array (Option Value)} {tk0 tk1 tk2 tk3 tk4 tk5 tk6 tk7 : Tok}
    (hg0 : PySem.W.nsIn K mainGlobals "is_integer" = some (some (.ref a0))) (hl0 : K.lookup a0 = some ⟨o0, u0, .func (PySem.W.fnOf "is_integer" "is_integer" (defArgs s0) (defBody s0) (defScope s0) .none q0 d0 p0 v0 e0 r0), w0⟩) (hc0 : PySem.W.codeIn K e0 "is_integer" = true) (hk0 : PySem.W.keepIn K (.ref a0) = true)
    (hg1 : PySem.W.nsIn K mainGlobals "is_int" = some (some (.ref a1))) (hl1 : K.lookup a1 = some ⟨o1, u1, .func (PySem.W.fnOf "is_int" "is_int" (defArgs s1) (defBody s1) (defScope s1) .none q1 d1 p1 v1 e1 r1), w1⟩) (hc1 : PySem.W.codeIn K e1 "is_int" = true) (hk1 : PySem.W.keepIn K (.ref a1) = true)
    (hg2 : PySem.W.nsIn K mainGlobals "is_range" = some (some (.ref a2))) (hl2 : K.lookup a2 = some ⟨o2, u2, .func (PySem.W.fnOf "is_range" "is_range" (defArgs s2) (defBody s2) (defScope s2) .none q2 d2 p2 v2 e2 r2), w2⟩) (hc2 : PySem.W.codeIn K e2 "is_range" = true) (hk2 : PySem.W.keepIn K (.ref a2) = true)
    (hg3 : PySem.W.nsIn K mainGlobals "find_products" = some (some (.ref a3))) (hl3 : K.lookup a3 = some ⟨o3, u3, .func (PySem.W.fnOf "find_products" "find_products" (defArgs s3) (defBody s3) (defScope s3) .none q3 d3 p3 v3 e3 r3), w3⟩) (hc3 : PySem.W.codeIn K e3 "find_products" = true) (hk3 : PySem.W.keepIn K (.ref a3) = true)
    (hg4 : PySem.W.nsIn K mainGlobals "is_leaf" = some (some (.ref a4))) (hl4 : K.lookup a4 = some ⟨o4, u4, .func (PySem.W.fnOf "is_leaf" "is_leaf" (defArgs s4) (defBody s4) (defScope s4) .none q4 d4 p4 v4 e4 r4), w4⟩) (hc4 : PySem.W.codeIn K e4 "is_leaf" = true) (hk4 : PySem.W.keepIn K (.ref a4) = true)
    (hg5 : PySem.W.nsIn K mainGlobals "count_leaves" = some (some (.ref a5))) (hl5 : K.lookup a5 = some ⟨o5, u5, .func (PySem.W.fnOf "count_leaves" "count_leaves" (defArgs s5) (defBody s5) (defScope s5) .none q5 d5 p5 v5 e5 r5), w5⟩) (hc5 : PySem.W.codeIn K e5 "count_leaves" = true) (hk5 : PySem.W.keepIn K (.ref a5) = true)
    (hg6 : PySem.W.nsIn K mainGlobals "is_expression" = some (some (.ref a6))) (hl6 : K.lookup a6 = some ⟨o6, u6, .func (PySem.W.fnOf "is_expression" "is_expression" (defArgs s6) (defBody s6) (defScope s6) .none q6 d6 p6 v6 e6 r6), w6⟩) (hc6 : PySem.W.codeIn K e6 "is_expression" = true) (hk6 : PySem.W.keepIn K (.ref a6) = true)
    (hg7 : PySem.W.nsIn K mainGlobals "check_expression" = some (some (.ref a7))) (hl7 : K.lookup a7 = some ⟨o7, u7, .func (PySem.W.fnOf "check_expression" "check_expression" (defArgs s7) (defBody s7) (defScope s7) .none q7 d7 p7 v7 e7 r7), w7⟩) (hc7 : PySem.W.codeIn K e7 "check_expression" = true) (hk7 : PySem.W.keepIn K (.ref a7) = true)
    (hg8 : PySem.W.nsIn K mainGlobals "names_in" = some (some (.ref a8))) (hl8 : K.lookup a8 = some ⟨o8, u8, .func (PySem.W.fnOf "names_in" "names_in" (defArgs s8) (defBody s8) (defScope s8) .none q8 d8 p8 v8 e8 r8), w8⟩) (hc8 : PySem.W.codeIn K e8 "names_in" = true) (hk8 : PySem.W.keepIn K (.ref a8) = true)
    (hg9 : PySem.W.nsIn K mainGlobals "is_box_row" = some (some (.ref a9))) (hl9 : K.lookup a9 = some ⟨o9, u9, .func (PySem.W.fnOf "is_box_row" "is_box_row" (defArgs s9) (defBody s9) (defScope s9) .none q9 d9 p9 v9 e9 r9), w9⟩) (hc9 : PySem.W.codeIn K e9 "is_box_row" = true) (hk9 : PySem.W.keepIn K (.ref a9) = true)
    (hg10 : PySem.W.nsIn K mainGlobals "rises_by_names" = some (some (.ref a10))) (hl10 : K.lookup a10 = some ⟨o10, u10, .func (PySem.W.fnOf "rises_by_names" "rises_by_names" (defArgs s10) (defBody s10) (defScope s10) .none q10 d10 p10 v10 e10 r10), w10⟩) (hc10 : PySem.W.codeIn K e10 "rises_by_names" = true) (hk10 : PySem.W.keepIn K (.ref a10) = true)
    (hg11 : PySem.W.nsIn K mainGlobals "is_box" = some (some (.ref a11))) (hl11 : K.lookup a11 = some ⟨o11, u11, .func (PySem.W.fnOf "is_box" "is_box" (defArgs s11) (defBody s11) (defScope s11) .none q11 d11 p11 v11 e11 r11), w11⟩) (hc11 : PySem.W.codeIn K e11 "is_box" = true) (hk11 : PySem.W.keepIn K (.ref a11) = true)
    (hg12 : PySem.W.nsIn K mainGlobals "fits" = some (some (.ref a12))) (hl12 : K.lookup a12 = some ⟨o12, u12, .func (PySem.W.fnOf "fits" "fits" (defArgs s12) (defBody s12) (defScope s12) .none q12 d12 p12 v12 e12 r12), w12⟩) (hc12 : PySem.W.codeIn K e12 "fits" = true) (hk12 : PySem.W.keepIn K (.ref a12) = true)
    (hg13 : PySem.W.nsIn K mainGlobals "check_box" = some (some (.ref a13))) (hl13 : K.lookup a13 = some ⟨o13, u13, .func (PySem.W.fnOf "check_box" "check_box" (defArgs s13) (defBody s13) (defScope s13) .none q13 d13 p13 v13 e13 r13), w13⟩) (hc13 : PySem.W.codeIn K e13 "check_box" = true) (hk13 : PySem.W.keepIn K (.ref a13) = true)
    (hg14 : PySem.W.nsIn K mainGlobals "is_point_row" = some (some (.ref a14))) (hl14 : K.lookup a14 = some ⟨o14, u14, .func (PySem.W.fnOf "is_point_row" "is_point_row" (defArgs s14) (defBody s14) (defScope s14) .none q14 d14 p14 v14 e14 r14), w14⟩) (hc14 : PySem.W.codeIn K e14 "is_point_row" = true) (hk14 : PySem.W.keepIn K (.ref a14) = true)
    (hg15 : PySem.W.nsIn K mainGlobals "find_value" = some (some (.ref a15))) (hl15 : K.lookup a15 = some ⟨o15, u15, .func (PySem.W.fnOf "find_value" "find_value" (defArgs s15) (defBody s15) (defScope s15) .none q15 d15 p15 v15 e15 r15), w15⟩) (hc15 : PySem.W.codeIn K e15 "find_value" = true) (hk15 : PySem.W.keepIn K (.ref a15) = true)
    (hg16 : PySem.W.nsIn K mainGlobals "value_at" = some (some (.ref a16))) (hl16 : K.lookup a16 = some ⟨o16, u16, .func (PySem.W.fnOf "value_at" "value_at" (defArgs s16) (defBody s16) (defScope s16) .none q16 d16 p16 v16 e16 r16), w16⟩) (hc16 : PySem.W.codeIn K e16 "value_at" = true) (hk16 : PySem.W.keepIn K (.ref a16) = true)
    (hg17 : PySem.W.nsIn K mainGlobals "find_rough" = some (some (.ref a17))) (hl17 : K.lookup a17 = some ⟨o17, u17, .func (PySem.W.fnOf "find_rough" "find_rough" (defArgs s17) (defBody s17) (defScope s17) .none q17 d17 p17 v17 e17 r17), w17⟩) (hc17 : PySem.W.codeIn K e17 "find_rough" = true) (hk17 : PySem.W.keepIn K (.ref a17) = true)
    (hg18 : PySem.W.nsIn K mainGlobals "ranges_of" = some (some (.ref a18))) (hl18 : K.lookup a18 = some ⟨o18, u18, .func (PySem.W.fnOf "ranges_of" "ranges_of" (defArgs s18) (defBody s18) (defScope s18) .none q18 d18 p18 v18 e18 r18), w18⟩) (hc18 : PySem.W.codeIn K e18 "ranges_of" = true) (hk18 : PySem.W.keepIn K (.ref a18) = true)
    (hg19 : PySem.W.nsIn K mainGlobals "rough_range" = some (some (.ref a19))) (hl19 : K.lookup a19 = some ⟨o19, u19, .func (PySem.W.fnOf "rough_range" "rough_range" (defArgs s19) (defBody s19) (defScope s19) .none q19 d19 p19 v19 e19 r19), w19⟩) (hc19 : PySem.W.codeIn K e19 "rough_range" = true) (hk19 : PySem.W.keepIn K (.ref a19) = true)
    (hg20 : PySem.W.nsIn K mainGlobals "_law_pick" = some (some (.ref a20))) (hl20 : K.lookup a20 = some ⟨o20, u20, .func (PySem.W.fnOf "_law_pick" "_law_pick" (defArgs s20) (defBody s20) (defScope s20) .none q20 d20 p20 v20 e20 r20), w20⟩) (hc20 : PySem.W.codeIn K e20 "_law_pick" = true) (hk20 : PySem.W.keepIn K (.ref a20) = true)
    (hg21 : PySem.W.nsIn K mainGlobals "_law_leaf" = some (some (.ref a21))) (hl21 : K.lookup a21 = some ⟨o21, u21, .func (PySem.W.fnOf "_law_leaf" "_law_leaf" (defArgs s21) (defBody s21) (defScope s21) .none q21 d21 p21 v21 e21 r21), w21⟩) (hc21 : PySem.W.codeIn K e21 "_law_leaf" = true) (hk21 : PySem.W.keepIn K (.ref a21) = true)
    (hg22 : PySem.W.nsIn K mainGlobals "_law_drawn" = some (some (.ref a22))) (hl22 : K.lookup a22 = some ⟨o22, u22, .func (PySem.W.fnOf "_law_drawn" "_law_drawn" (defArgs s22) (defBody s22) (defScope s22) .none q22 d22 p22 v22 e22 r22), w22⟩) (hc22 : PySem.W.codeIn K e22 "_law_drawn" = true) (hk22 : PySem.W.keepIn K (.ref a22) = true)
    (hg23 : PySem.W.nsIn K mainGlobals "_law_box" = some (some (.ref a23))) (hl23 : K.lookup a23 = some ⟨o23, u23, .func (PySem.W.fnOf "_law_box" "_law_box" (defArgs s23) (defBody s23) (defScope s23) .none q23 d23 p23 v23 e23 r23), w23⟩) (hc23 : PySem.W.codeIn K e23 "_law_box" = true) (hk23 : PySem.W.keepIn K (.ref a23) = true)
    (hg24 : PySem.W.nsIn K mainGlobals "_law_value" = some (some (.ref a24))) (hl24 : K.lookup a24 = some ⟨o24, u24, .func (PySem.W.fnOf "_law_value" "_law_value" (defArgs s24) (defBody s24) (defScope s24) .none q24 d24 p24 v24 e24 r24), w24⟩) (hc24 : PySem.W.codeIn K e24 "_law_value" = true) (hk24 : PySem.W.keepIn K (.ref a24) = true)
    (hg25 : PySem.W.nsIn K mainGlobals "_law_judged" = some (some (.ref a25))) (hl25 : K.lookup a25 = some ⟨o25, u25, .func (PySem.W.fnOf "_law_judged" "_law_judged" (defArgs s25) (defBody s25) (defScope s25) .none q25 d25 p25 v25 e25 r25), w25⟩) (hc25 : PySem.W.codeIn K e25 "_law_judged" = true) (hk25 : PySem.W.keepIn K (.ref a25) = true)
    (hg26 : PySem.W.nsIn K mainGlobals "_law_rough" = some (some (.ref a26))) (hl26 : K.lookup a26 = some ⟨o26, u26, .func (PySem.W.fnOf "_law_rough" "_law_rough" (defArgs s26) (defBody s26) (defScope s26) .none q26 d26 p26 v26 e26 r26), w26⟩) (hc26 : PySem.W.codeIn K e26 "_law_rough" = true) (hk26 : PySem.W.keepIn K (.ref a26) = true)
    (hg27 : PySem.W.nsIn K mainGlobals "law" = some (some (.ref a27))) (hl27 : K.lookup a27 = some ⟨o27, u27, .func (PySem.W.fnOf "law" "law" (defArgs s27) (defBody s27) (defScope s27) .none q27 d27 p27 v27 e27 r27), w27⟩) (hc27 : PySem.W.codeIn K e27 "law" = true) (hk27 : PySem.W.keepIn K (.ref a27) = true)
    (hv0 : PySem.W.nsIn K mainGlobals "MAX_TERM" = some (some (.int 9999 tk0)))
    (hv1 : PySem.W.nsIn K mainGlobals "CONST" = some (some (.str "const" tk1)))
    (hv2 : PySem.W.nsIn K mainGlobals "VAR" = some (some (.str "var" tk2)))
    (hv3 : PySem.W.nsIn K mainGlobals "PLUS" = some (some (.str "+" tk3)))
    (hv4 : PySem.W.nsIn K mainGlobals "MINUS" = some (some (.str "-" tk4)))
    (hv5 : PySem.W.nsIn K mainGlobals "TIMES" = some (some (.str "*" tk5)))
    (hv6 : PySem.W.nsIn K mainGlobals "NAMES" = some (some (.str "abcd" tk6)))
    (hv7 : PySem.W.nsIn K mainGlobals "MAX_LEAVES" = some (some (.int 6 tk7)))
    (hC0 : PySem.W.nsIn K mainGlobals "InvalidExpression" = some (some (.ref c0)))
    (x0_1 : PySem.W.excIn K c0 veT "ValueError.__new__" = true) (x0_2 : PySem.W.keepIn K (.ref c0) = true) (x0_3 : PySem.W.subIn K (.ref c0) (.type "BaseException") = some true) (x0_4 : PySem.W.typeIn K (.ref c0) = some (.type "type")) (x0_5 : PySem.W.isClsIn K c0 = true)
    (hC1 : PySem.W.nsIn K mainGlobals "InvalidPoint" = some (some (.ref c1)))
    (x1_1 : PySem.W.excIn K c1 veT "ValueError.__new__" = true) (x1_2 : PySem.W.keepIn K (.ref c1) = true) (x1_3 : PySem.W.subIn K (.ref c1) (.type "BaseException") = some true) (x1_4 : PySem.W.typeIn K (.ref c1) = some (.type "type")) (x1_5 : PySem.W.isClsIn K c1 = true)
    (hC2 : PySem.W.nsIn K mainGlobals "InvalidBox" = some (some (.ref c2)))
    (x2_1 : PySem.W.excIn K c2 veT "ValueError.__new__" = true) (x2_2 : PySem.W.keepIn K (.ref c2) = true) (x2_3 : PySem.W.subIn K (.ref c2) (.type "BaseException") = some true) (x2_4 : PySem.W.typeIn K (.ref c2) = some (.type "type")) (x2_5 : PySem.W.isClsIn K c2 = true)
    (hb_all : PySem.W.nsIn K mainGlobals "all" = some none)
    (hb_any : PySem.W.nsIn K mainGlobals "any" = some none)
    (hb_bool : PySem.W.nsIn K mainGlobals "bool" = some none)
    (hb_dict : PySem.W.nsIn K mainGlobals "dict" = some none)
    (hb_int : PySem.W.nsIn K mainGlobals "int" = some none)
    (hb_isinstance : PySem.W.nsIn K mainGlobals "isinstance" = some none)
    (hb_len : PySem.W.nsIn K mainGlobals "len" = some none)
    (hb_list : PySem.W.nsIn K mainGlobals "list" = some none)
    (hb_max : PySem.W.nsIn K mainGlobals "max" = some none)
    (hb_min : PySem.W.nsIn K mainGlobals "min" = some none)
    (hb_range : PySem.W.nsIn K mainGlobals "range" = some none)
    (hb_str : PySem.W.nsIn K mainGlobals "str" = some none)
    (hb_tuple : PySem.W.nsIn K mainGlobals "tuple" = some none)
    (hb_zip : PySem.W.nsIn K mainGlobals "zip" = some none)
    : ∃ fd : FuncData, (∀ (s : Shared) (v : Value), BindsTo s fd ⟨[v], []⟩ [("_law_script", v)]) ∧ ∀ base : Heap, K.In base → base.Ns mainGlobals mg → FnOk l.prog w K mg base (L2.CX l.prog w) 13 fa fd ["_law_script"] (spLaw K []) := by
  have e := hfa.symm.trans (PySem.W.mg_of X G hg27)
  cases e
  have F0 := fun_mk (st := s0) hl0 hc0 hk0
  have B0 := F0.binds (ps := ["value"]) fun _ _ _ _ _ _ us hl => match us, hl with | [_], _ => rfl
  have F1 := fun_mk (st := s1) hl1 hc1 hk1
  have B1 := F1.binds (ps := ["value", "least", "most"]) fun _ _ _ _ _ _ us hl => match us, hl with | [_, _, _], _ => rfl
  have F2 := fun_mk (st := s2) hl2 hc2 hk2
  have B2 := F2.binds (ps := ["value"]) fun _ _ _ _ _ _ us hl => match us, hl with | [_], _ => rfl
  have F3 := fun_mk (st := s3) hl3 hc3 hk3
  have B3 := F3.binds (ps := ["one", "other"]) fun _ _ _ _ _ _ us hl => match us, hl with | [_, _], _ => rfl
  have F4 := fun_mk (st := s4) hl4 hc4 hk4
  have B4 := F4.binds (ps := ["value"]) fun _ _ _ _ _ _ us hl => match us, hl with | [_], _ => rfl
  have F5 := fun_mk (st := s5) hl5 hc5 hk5
  have B5 := F5.binds (ps := ["value", "most"]) fun _ _ _ _ _ _ us hl => match us, hl with | [_, _], _ => rfl
  have F6 := fun_mk (st := s6) hl6 hc6 hk6
  have B6 := F6.binds (ps := ["candidate"]) fun _ _ _ _ _ _ us hl => match us, hl with | [_], _ => rfl
  have F7 := fun_mk (st := s7) hl7 hc7 hk7
  have B7 := F7.binds (ps := ["value"]) fun _ _ _ _ _ _ us hl => match us, hl with | [_], _ => rfl
  have F8 := fun_mk (st := s8) hl8 hc8 hk8
  have B8 := F8.binds (ps := ["expression"]) fun _ _ _ _ _ _ us hl => match us, hl with | [_], _ => rfl
  have F9 := fun_mk (st := s9) hl9 hc9 hk9
  have B9 := F9.binds (ps := ["value"]) fun _ _ _ _ _ _ us hl => match us, hl with | [_], _ => rfl
  have F10 := fun_mk (st := s10) hl10 hc10 hk10
  have B10 := F10.binds (ps := ["rows"]) fun _ _ _ _ _ _ us hl => match us, hl with | [_], _ => rfl
  have F11 := fun_mk (st := s11) hl11 hc11 hk11
  have B11 := F11.binds (ps := ["candidate"]) fun _ _ _ _ _ _ us hl => match us, hl with | [_], _ => rfl
  have F12 := fun_mk (st := s12) hl12 hc12 hk12
  have B12 := F12.binds (ps := ["expression", "rows"]) fun _ _ _ _ _ _ us hl => match us, hl with | [_, _], _ => rfl
  have F13 := fun_mk (st := s13) hl13 hc13 hk13
  have B13 := F13.binds (ps := ["expression", "value"]) fun _ _ _ _ _ _ us hl => match us, hl with | [_, _], _ => rfl
  have F14 := fun_mk (st := s14) hl14 hc14 hk14
  have B14 := F14.binds (ps := ["value"]) fun _ _ _ _ _ _ us hl => match us, hl with | [_], _ => rfl
  have F15 := fun_mk (st := s15) hl15 hc15 hk15
  have B15 := F15.binds (ps := ["expression", "known"]) fun _ _ _ _ _ _ us hl => match us, hl with | [_, _], _ => rfl
  have F16 := fun_mk (st := s16) hl16 hc16 hk16
  have B16 := F16.binds (ps := ["expression", "point"]) fun _ _ _ _ _ _ us hl => match us, hl with | [_, _], _ => rfl
  have F17 := fun_mk (st := s17) hl17 hc17 hk17
  have B17 := F17.binds (ps := ["expression", "known"]) fun _ _ _ _ _ _ us hl => match us, hl with | [_, _], _ => rfl
  have F18 := fun_mk (st := s18) hl18 hc18 hk18
  have B18 := F18.binds (ps := ["box"]) fun _ _ _ _ _ _ us hl => match us, hl with | [_], _ => rfl
  have F19 := fun_mk (st := s19) hl19 hc19 hk19
  have B19 := F19.binds (ps := ["expression", "box"]) fun _ _ _ _ _ _ us hl => match us, hl with | [_, _], _ => rfl
  have F20 := fun_mk (st := s20) hl20 hc20 hk20
  have B20 := F20.binds (ps := ["_law_script", "_law_k", "_law_many"]) fun _ _ _ _ _ _ us hl => match us, hl with | [_, _, _], _ => rfl
  have F21 := fun_mk (st := s21) hl21 hc21 hk21
  have B21 := F21.binds (ps := ["_law_script", "_law_place"]) fun _ _ _ _ _ _ us hl => match us, hl with | [_, _], _ => rfl
  have F22 := fun_mk (st := s22) hl22 hc22 hk22
  have B22 := F22.binds (ps := ["_law_script", "_law_place", "_law_most"]) fun _ _ _ _ _ _ us hl => match us, hl with | [_, _, _], _ => rfl
  have F23 := fun_mk (st := s23) hl23 hc23 hk23
  have B23 := F23.binds (ps := ["_law_script", "_law_place", "_law_wide"]) fun _ _ _ _ _ _ us hl => match us, hl with | [_, _, _], _ => rfl
  have F24 := fun_mk (st := s24) hl24 hc24 hk24
  have B24 := F24.binds (ps := ["_law_expression", "_law_known"]) fun _ _ _ _ _ _ us hl => match us, hl with | [_, _], _ => rfl
  have F25 := fun_mk (st := s25) hl25 hc25 hk25
  have B25 := F25.binds (ps := ["_law_drawn_here", "_law_box_here"]) fun _ _ _ _ _ _ us hl => match us, hl with | [_, _], _ => rfl
  have F26 := fun_mk (st := s26) hl26 hc26 hk26
  have B26 := F26.binds (ps := ["_law_expression", "_law_known"]) fun _ _ _ _ _ _ us hl => match us, hl with | [_, _], _ => rfl
  have F27 := fun_mk (st := s27) hl27 hc27 hk27
  have B27 := F27.binds (ps := ["_law_script"]) fun _ _ _ _ _ _ us hl => match us, hl with | [_], _ => rfl
  refine ⟨PySem.W.fnOf "law" "law" (defArgs s27) (defBody s27) (defScope s27) .none q27 d27 p27 v27 e27 r27, fun s v => .of_eq rfl, fun base _ _ => ?_⟩
  let GG : Gb := { tabs := ([] : List (Addr × Str)), P := l.prog, w := w, K := K, mg := mg, base := base, fa := fun i => pckH [a0, a1, a2, a3, a4, a5, a6, a7, a8, a9, a10, a11, a12, a13, a14, a15, a16, a17, a18, a19, a20, a21, a22, a23, a24, a25, a26, fa] i 0, ca := fun i => [c0, c1, c2].getD i 0, fd := fun i => pckH [PySem.W.fnOf "is_integer" "is_integer" (defArgs s0) (defBody s0) (defScope s0) .none q0 d0 p0 v0 e0 r0, PySem.W.fnOf "is_int" "is_int" (defArgs s1) (defBody s1) (defScope s1) .none q1 d1 p1 v1 e1 r1, PySem.W.fnOf "is_range" "is_range" (defArgs s2) (defBody s2) (defScope s2) .none q2 d2 p2 v2 e2 r2, PySem.W.fnOf "find_products" "find_products" (defArgs s3) (defBody s3) (defScope s3) .none q3 d3 p3 v3 e3 r3, PySem.W.fnOf "is_leaf" "is_leaf" (defArgs s4) (defBody s4) (defScope s4) .none q4 d4 p4 v4 e4 r4, PySem.W.fnOf "count_leaves" "count_leaves" (defArgs s5) (defBody s5) (defScope s5) .none q5 d5 p5 v5 e5 r5, PySem.W.fnOf "is_expression" "is_expression" (defArgs s6) (defBody s6) (defScope s6) .none q6 d6 p6 v6 e6 r6, PySem.W.fnOf "check_expression" "check_expression" (defArgs s7) (defBody s7) (defScope s7) .none q7 d7 p7 v7 e7 r7, PySem.W.fnOf "names_in" "names_in" (defArgs s8) (defBody s8) (defScope s8) .none q8 d8 p8 v8 e8 r8, PySem.W.fnOf "is_box_row" "is_box_row" (defArgs s9) (defBody s9) (defScope s9) .none q9 d9 p9 v9 e9 r9, PySem.W.fnOf "rises_by_names" "rises_by_names" (defArgs s10) (defBody s10) (defScope s10) .none q10 d10 p10 v10 e10 r10, PySem.W.fnOf "is_box" "is_box" (defArgs s11) (defBody s11) (defScope s11) .none q11 d11 p11 v11 e11 r11, PySem.W.fnOf "fits" "fits" (defArgs s12) (defBody s12) (defScope s12) .none q12 d12 p12 v12 e12 r12, PySem.W.fnOf "check_box" "check_box" (defArgs s13) (defBody s13) (defScope s13) .none q13 d13 p13 v13 e13 r13, PySem.W.fnOf "is_point_row" "is_point_row" (defArgs s14) (defBody s14) (defScope s14) .none q14 d14 p14 v14 e14 r14, PySem.W.fnOf "find_value" "find_value" (defArgs s15) (defBody s15) (defScope s15) .none q15 d15 p15 v15 e15 r15, PySem.W.fnOf "value_at" "value_at" (defArgs s16) (defBody s16) (defScope s16) .none q16 d16 p16 v16 e16 r16, PySem.W.fnOf "find_rough" "find_rough" (defArgs s17) (defBody s17) (defScope s17) .none q17 d17 p17 v17 e17 r17, PySem.W.fnOf "ranges_of" "ranges_of" (defArgs s18) (defBody s18) (defScope s18) .none q18 d18 p18 v18 e18 r18, PySem.W.fnOf "rough_range" "rough_range" (defArgs s19) (defBody s19) (defScope s19) .none q19 d19 p19 v19 e19 r19, PySem.W.fnOf "_law_pick" "_law_pick" (defArgs s20) (defBody s20) (defScope s20) .none q20 d20 p20 v20 e20 r20, PySem.W.fnOf "_law_leaf" "_law_leaf" (defArgs s21) (defBody s21) (defScope s21) .none q21 d21 p21 v21 e21 r21, PySem.W.fnOf "_law_drawn" "_law_drawn" (defArgs s22) (defBody s22) (defScope s22) .none q22 d22 p22 v22 e22 r22, PySem.W.fnOf "_law_box" "_law_box" (defArgs s23) (defBody s23) (defScope s23) .none q23 d23 p23 v23 e23 r23, PySem.W.fnOf "_law_value" "_law_value" (defArgs s24) (defBody s24) (defScope s24) .none q24 d24 p24 v24 e24 r24, PySem.W.fnOf "_law_judged" "_law_judged" (defArgs s25) (defBody s25) (defScope s25) .none q25 d25 p25 v25 e25 r25, PySem.W.fnOf "_law_rough" "_law_rough" (defArgs s26) (defBody s26) (defScope s26) .none q26 d26 p26 v26 e26 r26, PySem.W.fnOf "law" "law" (defArgs s27) (defBody s27) (defScope s27) .none q27 d27 p27 v27 e27 r27] i default, ps := fun i => pckH ([(["value"] : List Str), (["value", "least", "most"] : List Str), (["value"] : List Str), (["one", "other"] : List Str), (["value"] : List Str), (["value", "most"] : List Str), (["candidate"] : List Str), (["value"] : List Str), (["expression"] : List Str), (["value"] : List Str), (["rows"] : List Str), (["candidate"] : List Str), (["expression", "rows"] : List Str), (["expression", "value"] : List Str), (["value"] : List Str), (["expression", "known"] : List Str), (["expression", "point"] : List Str), (["expression", "known"] : List Str), (["box"] : List Str), (["expression", "box"] : List Str), (["_law_script", "_law_k", "_law_many"] : List Str), (["_law_script", "_law_place"] : List Str), (["_law_script", "_law_place", "_law_most"] : List Str), (["_law_script", "_law_place", "_law_wide"] : List Str), (["_law_expression", "_law_known"] : List Str), (["_law_drawn_here", "_law_box_here"] : List Str), (["_law_expression", "_law_known"] : List Str), (["_law_script"] : List Str)] : List (List Str)) i [] }
  have C1 : ∀ c, c ≤ 2 → ClF GG.K (GG.ca c) := fun c hc => match c, hc with
    | 0, _ => ⟨x0_1, x0_2, x0_3, x0_4, x0_5⟩
    | 1, _ => ⟨x1_1, x1_2, x1_3, x1_4, x1_5⟩
    | 2, _ => ⟨x2_1, x2_2, x2_3, x2_4, x2_5⟩
    | c + 3, hc => absurd hc (by omega)
  have T : TbOk GG hd tb fs :=
    { pos := by decide
      comp := comp_ok
      fn := fun i hi => match i, hi with
        | 0, _ => ⟨F0, B0, rfl⟩
        | 1, _ => ⟨F1, B1, rfl⟩
        | 2, _ => ⟨F2, B2, rfl⟩
        | 3, _ => ⟨F3, B3, rfl⟩
        | 4, _ => ⟨F4, B4, rfl⟩
        | 5, _ => ⟨F5, B5, rfl⟩
        | 6, _ => ⟨F6, B6, rfl⟩
        | 7, _ => ⟨F7, B7, rfl⟩
        | 8, _ => ⟨F8, B8, rfl⟩
        | 9, _ => ⟨F9, B9, rfl⟩
        | 10, _ => ⟨F10, B10, rfl⟩
        | 11, _ => ⟨F11, B11, rfl⟩
        | 12, _ => ⟨F12, B12, rfl⟩
        | 13, _ => ⟨F13, B13, rfl⟩
        | 14, _ => ⟨F14, B14, rfl⟩
        | 15, _ => ⟨F15, B15, rfl⟩
        | 16, _ => ⟨F16, B16, rfl⟩
        | 17, _ => ⟨F17, B17, rfl⟩
        | 18, _ => ⟨F18, B18, rfl⟩
        | 19, _ => ⟨F19, B19, rfl⟩
        | 20, _ => ⟨F20, B20, rfl⟩
        | 21, _ => ⟨F21, B21, rfl⟩
        | 22, _ => ⟨F22, B22, rfl⟩
        | 23, _ => ⟨F23, B23, rfl⟩
        | 24, _ => ⟨F24, B24, rfl⟩
        | 25, _ => ⟨F25, B25, rfl⟩
        | 26, _ => ⟨F26, B26, rfl⟩
        | 27, _ => ⟨F27, B27, rfl⟩
        | i + 28, hi => absurd hi (by show ¬ i + 28 < 28; omega)
      hi := fun i hi => ⟨pckH_hi hi (Nat.succ_pos _), pckH_hi hi (Nat.succ_pos _), pckH_hi hi (Nat.succ_pos _)⟩
      gt := gt_of (show GtAll GG hd.gt from ⟨PySem.W.mg_of X G hg0, PySem.W.mg_of X G hg1, PySem.W.mg_of X G hg2, PySem.W.mg_of X G hg3, PySem.W.mg_of X G hg4, PySem.W.mg_of X G hg5, PySem.W.mg_of X G hg6, PySem.W.mg_of X G hg7, PySem.W.mg_of X G hg8, PySem.W.mg_of X G hg9, PySem.W.mg_of X G hg10, PySem.W.mg_of X G hg11, PySem.W.mg_of X G hg12, PySem.W.mg_of X G hg13, PySem.W.mg_of X G hg14, PySem.W.mg_of X G hg15, PySem.W.mg_of X G hg16, PySem.W.mg_of X G hg17, PySem.W.mg_of X G hg18, PySem.W.mg_of X G hg19, PySem.W.mg_of X G hg20, PySem.W.mg_of X G hg21, PySem.W.mg_of X G hg22, PySem.W.mg_of X G hg23, PySem.W.mg_of X G hg24, PySem.W.mg_of X G hg25, PySem.W.mg_of X G hg26, PySem.W.mg_of X G hg27, ⟨.int 9999, _, PySem.W.mg_of X G hv0, ⟨_, rfl⟩, fun _ _ => .int _⟩, ⟨.str "const", _, PySem.W.mg_of X G hv1, ⟨_, rfl⟩, fun _ _ => .str _⟩, ⟨.str "var", _, PySem.W.mg_of X G hv2, ⟨_, rfl⟩, fun _ _ => .str _⟩, ⟨.str "+", _, PySem.W.mg_of X G hv3, ⟨_, rfl⟩, fun _ _ => .str _⟩, ⟨.str "-", _, PySem.W.mg_of X G hv4, ⟨_, rfl⟩, fun _ _ => .str _⟩, ⟨.str "*", _, PySem.W.mg_of X G hv5, ⟨_, rfl⟩, fun _ _ => .str _⟩, ⟨.str "abcd", _, PySem.W.mg_of X G hv6, ⟨_, rfl⟩, fun _ _ => .str _⟩, ⟨.int 6, _, PySem.W.mg_of X G hv7, ⟨_, rfl⟩, fun _ _ => .int _⟩, PySem.W.mg_of X G hC0, PySem.W.mg_of X G hC1, PySem.W.mg_of X G hC2, PySem.W.mg_none_of X G hb_all, PySem.W.mg_none_of X G hb_any, PySem.W.mg_none_of X G hb_bool, PySem.W.mg_none_of X G hb_dict, PySem.W.mg_none_of X G hb_int, PySem.W.mg_none_of X G hb_isinstance, PySem.W.mg_none_of X G hb_len, PySem.W.mg_none_of X G hb_list, PySem.W.mg_none_of X G hb_max, PySem.W.mg_none_of X G hb_min, PySem.W.mg_none_of X G hb_range, PySem.W.mg_none_of X G hb_str, PySem.W.mg_none_of X G hb_tuple, PySem.W.mg_none_of X G hb_zip, trivial⟩)
      cl := fun c hc => (C1 c (by have : c < 3 := hc; omega)).ok
      cs := fun z => Bool.noConfusion z
      lm := fun i hi => (lam_no (tb := tb) rfl hi).elim }
  exact law_fn (fok_all T 13 27) rfl lawT
end
end Lw
open PySem PySem.W PyProof.Rows
set_option maxHeartbeats 0 in
theorem PySem.Challenge.cw_safesums_k50_expressions_holds : PySem.Challenge.rw_safesums_k50_expressions.Holds := by
  w_on; o_law; k_head; (case hw => w_witness2)
  k_fill
  refine L2.walk_ofB (l := PySem.Challenge.rw_safesums_k50_expressions) (n := 63) (k := 13) (x := "_law_script") (CX := fun w => L2.CX (PySem.W.OpenLaw.prog PySem.Challenge.rw_safesums_k50_expressions) w) (sp := fun w => SS.spLaw _ []) rfl (by decide) rfl ⟨rfl, by decide, by decide⟩ (fun w h Y => PySem.W.kIn_of Y) ?F (fun _ _ a ns hl hb hO hS => ⟨a, ns, rfl, hS, fun p hp => absurd hp List.not_mem_nil, hl, hb, fun _ => rfl⟩) (fun _ _ _ _ _ h => SS.cx_no h)
  case F =>
    intro w mg fa h KX G hmg
    refine' Lw.all_mk KX G hmg ?hg0 ?hl0 ?hc0 ?hk0 ?hg1 ?hl1 ?hc1 ?hk1 ?hg2 ?hl2 ?hc2 ?hk2 ?hg3 ?hl3 ?hc3 ?hk3 ?hg4 ?hl4 ?hc4 ?hk4 ?hg5 ?hl5 ?hc5 ?hk5 ?hg6 ?hl6 ?hc6 ?hk6 ?hg7 ?hl7 ?hc7 ?hk7 ?hg8 ?hl8 ?hc8 ?hk8 ?hg9 ?hl9 ?hc9 ?hk9 ?hg10 ?hl10 ?hc10 ?hk10 ?hg11 ?hl11 ?hc11 ?hk11 ?hg12 ?hl12 ?hc12 ?hk12 ?hg13 ?hl13 ?hc13 ?hk13 ?hg14 ?hl14 ?hc14 ?hk14 ?hg15 ?hl15 ?hc15 ?hk15 ?hg16 ?hl16 ?hc16 ?hk16 ?hg17 ?hl17 ?hc17 ?hk17 ?hg18 ?hl18 ?hc18 ?hk18 ?hg19 ?hl19 ?hc19 ?hk19 ?hg20 ?hl20 ?hc20 ?hk20 ?hg21 ?hl21 ?hc21 ?hk21 ?hg22 ?hl22 ?hc22 ?hk22 ?hg23 ?hl23 ?hc23 ?hk23 ?hg24 ?hl24 ?hc24 ?hk24 ?hg25 ?hl25 ?hc25 ?hk25 ?hg26 ?hl26 ?hc26 ?hk26 ?hg27 ?hl27 ?hc27 ?hk27 ?hv0 ?hv1 ?hv2 ?hv3 ?hv4 ?hv5 ?hv6 ?hv7 ?hC0 ?x0_1 ?x0_2 ?x0_3 ?x0_4 ?x0_5 ?hC1 ?x1_1 ?x1_2 ?x1_3 ?x1_4 ?x1_5 ?hC2 ?x2_1 ?x2_2 ?x2_3 ?x2_4 ?x2_5 ?hb_all ?hb_any ?hb_bool ?hb_dict ?hb_int ?hb_isinstance ?hb_len ?hb_list ?hb_max ?hb_min ?hb_range ?hb_str ?hb_tuple ?hb_zip
    (case hg0 => k_is); (case hl0 => k_is); (case hc0 => k_is); (case hk0 => k_is); (case hg1 => k_is); (case hl1 => k_is)
    (case hc1 => k_is); (case hk1 => k_is); (case hg2 => k_is); (case hl2 => k_is); (case hc2 => k_is); (case hk2 => k_is)
    (case hg3 => k_is); (case hl3 => k_is); (case hc3 => k_is); (case hk3 => k_is); (case hg4 => k_is); (case hl4 => k_is)
    (case hc4 => k_is); (case hk4 => k_is); (case hg5 => k_is); (case hl5 => k_is); (case hc5 => k_is); (case hk5 => k_is)
    (case hg6 => k_is); (case hl6 => k_is); (case hc6 => k_is); (case hk6 => k_is); (case hg7 => k_is); (case hl7 => k_is)
    (case hc7 => k_is); (case hk7 => k_is); (case hg8 => k_is); (case hl8 => k_is); (case hc8 => k_is); (case hk8 => k_is)
    (case hg9 => k_is); (case hl9 => k_is); (case hc9 => k_is); (case hk9 => k_is); (case hg10 => k_is); (case hl10 => k_is)
    (case hc10 => k_is); (case hk10 => k_is); (case hg11 => k_is); (case hl11 => k_is); (case hc11 => k_is); (case hk11 => k_is)
    (case hg12 => k_is); (case hl12 => k_is); (case hc12 => k_is); (case hk12 => k_is); (case hg13 => k_is); (case hl13 => k_is)
    (case hc13 => k_is); (case hk13 => k_is); (case hg14 => k_is); (case hl14 => k_is); (case hc14 => k_is); (case hk14 => k_is)
    (case hg15 => k_is); (case hl15 => k_is); (case hc15 => k_is); (case hk15 => k_is); (case hg16 => k_is); (case hl16 => k_is)
    (case hc16 => k_is); (case hk16 => k_is); (case hg17 => k_is); (case hl17 => k_is); (case hc17 => k_is); (case hk17 => k_is)
    (case hg18 => k_is); (case hl18 => k_is); (case hc18 => k_is); (case hk18 => k_is); (case hg19 => k_is); (case hl19 => k_is)
    (case hc19 => k_is); (case hk19 => k_is); (case hg20 => k_is); (case hl20 => k_is); (case hc20 => k_is); (case hk20 => k_is)
    (case hg21 => k_is); (case hl21 => k_is); (case hc21 => k_is); (case hk21 => k_is); (case hg22 => k_is); (case hl22 => k_is)
    (case hc22 => k_is); (case hk22 => k_is); (case hg23 => k_is); (case hl23 => k_is); (case hc23 => k_is); (case hk23 => k_is)
    (case hg24 => k_is); (case hl24 => k_is); (case hc24 => k_is); (case hk24 => k_is); (case hg25 => k_is); (case hl25 => k_is)
    (case hc25 => k_is); (case hk25 => k_is); (case hg26 => k_is); (case hl26 => k_is); (case hc26 => k_is); (case hk26 => k_is)
    (case hg27 => k_is); (case hl27 => k_is); (case hc27 => k_is); (case hk27 => k_is); (case hv0 => k_is); (case hv1 => k_is)
    (case hv2 => k_is); (case hv3 => k_is); (case hv4 => k_is); (case hv5 => k_is); (case hv6 => k_is); (case hv7 => k_is)
    (case hC0 => k_is); (case x0_1 => k_exc); (case x0_2 => k_is); (case x0_3 => k_is); (case x0_4 => k_is); (case x0_5 => k_is)
    (case hC1 => k_is); (case x1_1 => k_exc); (case x1_2 => k_is); (case x1_3 => k_is); (case x1_4 => k_is); (case x1_5 => k_is)
    (case hC2 => k_is); (case x2_1 => k_exc); (case x2_2 => k_is); (case x2_3 => k_is); (case x2_4 => k_is); (case x2_5 => k_is)
    (case hb_all => k_is); (case hb_any => k_is); (case hb_bool => k_is); (case hb_dict => k_is); (case hb_int => k_is); (case hb_isinstance => k_is)
    (case hb_len => k_is); (case hb_list => k_is); (case hb_max => k_is); (case hb_min => k_is); (case hb_range => k_is); (case hb_str => k_is)
    (case hb_tuple => k_is); (case hb_zip => k_is)

